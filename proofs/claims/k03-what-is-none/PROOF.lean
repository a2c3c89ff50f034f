import PyProof.Rows.All
import Wide.All
import OpenK.AllK
import Wide.FinOn
import HandS.ForMost
import HandS.Evl
import HandS.IsInst
import HandS.Flow
import HandS.Defaults
import HandS.Wide
import HandS.WideMore
import HandS.Style
import HandS.ForExc
import HandS.TryOnly
import HandS.CallSlots
import PySem.Challenge.RW_lanescroll_k03_what_is_none
set_option Elab.async false
set_option linter.all false
set_option maxRecDepth 100000
set_option maxHeartbeats 2000000
namespace Y
open PySem PySem.Spec PyProof.Rows
open L2

/-- data: what a value stands for, through the heap -/
inductive D where
  | non | bl (b : Bool) | int (i : Int) | str (x : Str)
  | lst (ds : List D) | tup (ds : List D) | dic (kvs : List (Key × D))

abbrev Ex (H H' : Hp) : Prop := ∀ a o, H a = some o → H' a = some o
theorem Ex.refl (H : Hp) : Ex H H := fun _ _ h => h
theorem Ex.trans {H H1 H2 : Hp} (a : Ex H H1) (b : Ex H1 H2) : Ex H H2 := fun x o h => b x o (a x o h)
theorem Ex.new {H : Hp} {p : Addr} {o : HO} (h : H p = none) : Ex H (upd H p o) := fun a u e => by
  rw [upd_ne (ne_of_none e h)]
  exact e
theorem Ex.upd {B H : Hp} {p : Addr} {o : HO} (e : Ex B H) (h : B p = none) : Ex B (upd H p o) := fun a u ha => by
  rw [upd_ne (ne_of_none ha h)]
  exact e a u ha
theorem Ex.both {B H : Hp} {p : Addr} {o : HO} (e : Ex B H) : Ex (L2.upd B p o) (L2.upd H p o) := fun a u ha => by
  by_cases q : a = p
  · subst q; rw [upd_same] at ha; cases ha; exact upd_same
  · rw [upd_ne q] at ha; rw [upd_ne q]; exact e a u ha
theorem Ex.none {H H' : Hp} {p : Addr} (e : Ex H H') (h : H' p = none) : H p = none := by
  cases h1 : H p with
  | none => rfl
  | some o => rw [e p o h1] at h; cases h
theorem Ex.rd {H H' : Hp} {a : Addr} {u : HO} (e : Ex H H') (h : Rd H a u) : Rd H' a u := by
  rcases h with h | ⟨o, h⟩
  · exact Or.inl (e a _ h)
  · exact Or.inr ⟨o, e a _ h⟩
theorem Ex.l {K : PySem.W.Frag} {H H' : Hp} {a : Addr} {xs : List V} (e : Ex H H') (h : SqL K H a xs) : SqL K H' a xs := by
  rcases h with h | h
  · exact Or.inl (e.rd h)
  · exact Or.inr h
theorem Ex.t {K : PySem.W.Frag} {H H' : Hp} {a : Addr} {xs : List V} (e : Ex H H') (h : SqT K H a xs) : SqT K H' a xs := by
  rcases h with h | h
  · exact Or.inl (e.rd h)
  · exact Or.inr h

mutual
/-- v stands for d -/
inductive Rep (K : PySem.W.Frag) (B : Hp) : V → D → Prop where
  | non : Rep K B .non .non
  | bl (b : Bool) : Rep K B (.bl b) (.bl b)
  | int (i : Int) : Rep K B (.int i) (.int i)
  | str (x : Str) : Rep K B (.str x) (.str x)
  | lst {p : Addr} {xs : List V} {ds : List D} (h : SqL K B p xs) (r : RepL K B xs ds) : Rep K B (.ref p) (.lst ds)
  | tup {p : Addr} {xs : List V} {ds : List D} (h : SqT K B p xs) (r : RepL K B xs ds) : Rep K B (.ref p) (.tup ds)
  | dic {p : Addr} {kvs : List (Key × V)} {ds : List (Key × D)} (h : B p = some (.dK kvs)) (r : RepK K B kvs ds) : Rep K B (.ref p) (.dic ds)
inductive RepL (K : PySem.W.Frag) (B : Hp) : List V → List D → Prop where
  | nil : RepL K B [] []
  | cons {v : V} {d : D} {vs : List V} {ds : List D} (h : Rep K B v d) (t : RepL K B vs ds) : RepL K B (v :: vs) (d :: ds)
inductive RepK (K : PySem.W.Frag) (B : Hp) : List (Key × V) → List (Key × D) → Prop where
  | nil : RepK K B [] []
  | cons {k : Key} {v : V} {d : D} {vs : List (Key × V)} {ds : List (Key × D)} (h : Rep K B v d) (t : RepK K B vs ds) : RepK K B ((k, v) :: vs) ((k, d) :: ds)
end
section
variable {K : PySem.W.Frag} {B B' H : Hp}
mutual
theorem Rep.mono (e : Ex B B') : ∀ {v : V} {d : D}, Rep K B v d → Rep K B' v d
  | _, _, .non => .non
  | _, _, .bl b => .bl b
  | _, _, .int i => .int i
  | _, _, .str x => .str x
  | _, _, .lst h r => .lst (e.l h) (RepL.mono e r)
  | _, _, .tup h r => .tup (e.t h) (RepL.mono e r)
  | _, _, .dic h r => .dic (e _ _ h) (RepK.mono e r)
theorem RepL.mono (e : Ex B B') : ∀ {vs : List V} {ds : List D}, RepL K B vs ds → RepL K B' vs ds
  | _, _, .nil => .nil
  | _, _, .cons h t => .cons (Rep.mono e h) (RepL.mono e t)
theorem RepK.mono (e : Ex B B') : ∀ {vs : List (Key × V)} {ds : List (Key × D)}, RepK K B vs ds → RepK K B' vs ds
  | _, _, .nil => .nil
  | _, _, .cons h t => .cons (Rep.mono e h) (RepK.mono e t)
end
theorem RepL.length : ∀ {vs : List V} {ds : List D}, RepL K B vs ds → vs.length = ds.length
  | _, _, .nil => rfl
  | _, _, .cons _ t => congrArg Nat.succ (RepL.length t)
theorem RepL.get : ∀ {vs : List V} {ds : List D} {i : Nat} {d : D}, RepL K B vs ds → ds[i]? = some d → ∃ v, vs[i]? = some v ∧ Rep K B v d
  | _, _, _, _, .nil, e => by simp at e
  | _, _, 0, _, .cons r _, e => by simp at e; subst e; exact ⟨_, rfl, r⟩
  | _, _, i + 1, x, .cons _ t, e => by
    obtain ⟨u, h1, h2⟩ := RepL.get (i := i) (d := x) t (by simpa using e)
    exact ⟨u, by simpa using h1, h2⟩
theorem RepL.append : ∀ {vs ws : List V} {ds es : List D}, RepL K B vs ds → RepL K B ws es → RepL K B (vs ++ ws) (ds ++ es)
  | _, _, _, _, .nil, s => s
  | _, _, _, _, .cons r t, s => .cons r (RepL.append t s)
theorem RepL.at {vs : List V} {ds : List D} {i : Int} {d : D} (r : RepL K B vs ds) (h : atI ds i = some d) : ∃ v, atI vs i = some v ∧ Rep K B v d := by
  unfold atI at h ⊢
  rw [r.length]
  cases e : ixN ds.length i with
  | none => rw [e] at h; cases h
  | some j => rw [e] at h; exact r.get h
theorem RepL.ints : ∀ (ns : List Int), RepL K B (ns.map V.int) (ns.map D.int)
  | [] => .nil
  | n :: r => .cons (.int n) (RepL.ints r)
theorem RepL.of_ints : ∀ {vs : List V} {ns : List Int}, RepL K B vs (ns.map D.int) → vs = ns.map V.int
  | [], [], _ => rfl
  | _ :: _, [], r => nomatch r
  | [], _ :: _, r => nomatch r
  | v :: vs, n :: ns, r => by
    cases r with
    | cons h t =>
      cases h
      rw [RepL.of_ints t]
      rfl
end

/-- from (B, H), what is known and the heap, to (B', H'), writing at most at W -/
structure Stp (W : List Addr) (B H B' H' : Hp) : Prop where
  ex : Ex B B'
  ok : Ex B' H'
  fr : ∀ a o, a ∉ W → H a = some o → H' a = some o
  al : ∀ a o, H a = some o → ∃ o', H' a = some o'
  nw : ∀ a o, B a = none → H a = some o → B' a = none
section
variable {W W' : List Addr} {B H B' H' B1 H1 B2 H2 : Hp} {p : Addr} {o : HO}
theorem Stp.refl (w : Ex B H) : Stp W B H B H := ⟨Ex.refl B, w, fun _ _ _ h => h, fun _ o h => ⟨o, h⟩, fun _ _ h _ => h⟩
theorem Stp.trans (a : Stp W B H B1 H1) (b : Stp W B1 H1 B2 H2) : Stp W B H B2 H2 :=
  ⟨a.ex.trans b.ex, b.ok, fun x o hx h => b.fr x o hx (a.fr x o hx h), fun x o h => let ⟨o1, h1⟩ := a.al x o h; b.al x o1 h1, fun x o hb h => let ⟨o1, h1⟩ := a.al x o h; b.nw x o1 (a.nw x o hb h) h1⟩
theorem Stp.w (a : Stp W B H B1 H1) (h : ∀ x, x ∈ W → x ∈ W') : Stp W' B H B1 H1 := ⟨a.ex, a.ok, fun x o hx e => a.fr x o (fun z => hx (h x z)) e, a.al, a.nw⟩
theorem Stp.w0 (a : Stp [] B H B1 H1) : Stp W B H B1 H1 := a.w fun _ h => nomatch h
/-- a new object that stays -/
theorem Stp.new (w : Ex B H) (h : H p = none) : Stp W B H (upd B p o) (upd H p o) :=
  ⟨Ex.new (w.none h), w.both, fun a u _ e => Ex.new h a u e, fun a u e => ⟨u, Ex.new h a u e⟩, fun a u hb e => by rw [upd_ne (ne_of_none e h)]; exact hb⟩
/-- a new object that may change -/
theorem Stp.newM (w : Ex B H) (h : H p = none) : Stp W B H B (upd H p o) :=
  ⟨Ex.refl B, w.upd (w.none h), fun a u _ e => Ex.new h a u e, fun a u e => ⟨u, Ex.new h a u e⟩, fun a u hb _ => hb⟩
/-- a changed object of W -/
theorem Stp.set (w : Ex B H) (hp : p ∈ W) (hb : B p = none) {u : HO} (hu : H p = some u) : Stp W B H B (upd H p o) :=
  ⟨Ex.refl B, w.upd hb, fun a u hx e => by rw [upd_ne (fun z => hx (by rw [z]; exact hp))]; exact e, fun a u e => by
    by_cases q : a = p
    · subst q; exact ⟨o, upd_same⟩
    · exact ⟨u, by rw [upd_ne q]; exact e⟩, fun _ _ h _ => h⟩
/-- an object of our own, made behind the entry, changed -/
theorem Stp.own (a : Stp W B H B1 H1) (h0 : H p = none) (hb : B1 p = none) (h : ∃ u, H1 p = some u) : Stp W B H B1 (upd H1 p o) :=
  ⟨a.ex, a.ok.upd hb, fun x u hx e => by rw [upd_ne (ne_of_none e h0)]; exact a.fr x u hx e, fun x u e => by
    rw [upd_ne (ne_of_none e h0)]; exact a.al x u e, a.nw⟩
/-- an object of our own turns into one that stays -/
theorem Stp.keep (w : Ex B H) (a : Stp W B H B1 H1) (h0 : H p = none) (hb : B1 p = none) (h : H1 p = some o) : Stp W B H (upd B1 p o) H1 :=
  ⟨fun x u e => by rw [upd_ne (ne_of_none e (w.none h0))]; exact a.ex x u e, fun x u e => by
    by_cases q : x = p
    · subst q; rw [upd_same] at e; cases e; exact h
    · rw [upd_ne q] at e; exact a.ok x u e, a.fr, a.al, fun x u hb e => by rw [upd_ne (ne_of_none e h0)]; exact a.nw x u hb e⟩
end
/-! ### mirrors -/
/-- an error that is raised: the class's name, what it is told -/
structure Err where
  cls : Str
  args : List D := []
/-- what a mirror gives: a value, an error, or a place that the model does not serve -/
inductive Res (α : Type) where
  | ok (a : α) | err (e : Err) | stuck
def Res.bind {α β : Type} (m : Res α) (k : α → Res β) : Res β := match m with | .ok a => k a | .err e => .err e | .stuck => .stuck
/-- an error that nobody waits for -/
def Res.noErr {α : Type} (m : Res α) : Res α := match m with | .ok a => .ok a | _ => .stuck
instance : Monad Res where
  pure := Res.ok
  bind := Res.bind
def Post0 {α : Type} (m : Res α) (P : α → Prop) (R : Err → Prop) : Prop := match m with | .ok a => P a | .err e => R e | .stuck => False
/-- what the mirror gives is wished for: a structure, so that nothing looks into it -/
structure Post {α : Type} (m : Res α) (P : α → Prop) (R : Err → Prop) : Prop where
  h0 : Post0 m P R
section
variable {α β : Type} {m : Res α} {P P' : α → Prop} {R R' : Err → Prop} {a : α}
theorem Post.mono (h : Post m P R) (hp : ∀ a, P a → P' a) (hr : ∀ e, R e → R' e) : Post m P' R' := by
  obtain ⟨h⟩ := h
  refine ⟨?_⟩
  cases m with
  | ok a => exact hp a h
  | err e => exact hr e h
  | stuck => exact h
theorem Post.bind {k : α → Res β} {P : β → Prop} (h : Post (m.bind k) P R) : Post m (fun a => Post (k a) P R) R := by
  obtain ⟨h⟩ := h
  refine ⟨?_⟩
  cases m
  · exact ⟨h⟩
  · exact h
  · exact h
theorem Post.noErr (h : Post m.noErr P R) : Post m P (fun _ => False) := by
  obtain ⟨h⟩ := h
  refine ⟨?_⟩
  cases m with
  | ok a => exact h
  | err e => exact h
  | stuck => exact h
theorem Post.ok (h : Post (.ok a) P R) : P a := h.h0
theorem Post.err {e : Err} (h : Post (.err e : Res α) P R) : R e := h.h0
theorem Post.elim {C : Prop} (h : Post (.stuck : Res α) P R) : C := False.elim h.h0
theorem Post.mk' (h : P a) : Post (.ok a) P R := ⟨h⟩
theorem Post.iteT {c : Bool} {m m' : Res α} (h : Post (if c = true then m else m') P R) (hc : c = true) : Post m P R := by
  rw [if_pos hc] at h; exact h
theorem Post.iteF {c : Bool} {m m' : Res α} (h : Post (if c = true then m else m') P R) (hc : c = false) : Post m' P R := by
  rw [hc, if_neg Bool.false_ne_true] at h; exact h
theorem Post.is {m' : Res α} (h : Post m P R) (e : m = m') : Post m' P R := e ▸ h
end
/-- an item -/
def ixR {α : Type} (l : List α) (i : Int) : Res α := match atI l i with | some x => .ok x | none => .stuck
theorem Post.ix {α β : Type} {l : List α} {i : Int} {k : α → Res β} {P : β → Prop} {R : Err → Prop} (h : Post ((ixR l i).bind k) P R) : ∃ x, atI l i = some x ∧ Post (k x) P R := by
  unfold ixR at h
  cases e : atI l i with
  | none => rw [e] at h; exact h.elim
  | some x => rw [e] at h; exact ⟨x, rfl, h⟩
/-- where c holds -/
def guardR {α : Type} (c : Prop) [Decidable c] (m : Res α) : Res α := if c then m else .stuck
theorem Post.guard {α : Type} {c : Prop} [Decidable c] {m : Res α} {P : α → Prop} {R : Err → Prop} (h : Post (guardR c m) P R) : c ∧ Post m P R := by
  unfold guardR at h
  by_cases e : c
  · rw [if_pos e] at h; exact ⟨e, h⟩
  · rw [if_neg e] at h; exact h.elim
instance (i j : Int) : Decidable (CMulW i j) := by unfold CMulW; infer_instance
instance (i j : Int) : Decidable (CDivW i j) := by unfold CDivW; infer_instance
/-- a loop's turn: on, or a value that is returned, or out -/
inductive Fl (S R : Type) where
  | nx (s : S) | rt (r : R) | bk (s : S)
def forR {α S R : Type} : List α → S → (α → S → Res (Fl S R)) → Res (Fl S R)
  | [], s, _ => .ok (.nx s)
  | x :: xs, s, f => (f x s).bind fun r => match r with | .nx s' => forR xs s' f | r => .ok r
theorem Post.forS {α S R : Type} {l : List α} {i : Nat} {s : S} {f : α → S → Res (Fl S R)} {P : Fl S R → Prop} {E : Err → Prop} {x : α} (h : Post (forR (l.drop i) s f) P E) (hx : l[i]? = some x) :
    Post (f x s) (fun r => match r with | .nx s' => Post (forR (l.drop (i + 1)) s' f) P E | .rt v => P (.rt v) | .bk s' => P (.bk s')) E := by
  obtain ⟨hi, e⟩ := List.getElem?_eq_some_iff.mp hx
  rw [List.drop_eq_getElem_cons hi, e] at h
  exact (Post.bind h).mono (fun r q => by
    cases r
    · exact q
    · exact q.ok
    · exact q.ok) fun _ q => q
theorem Post.forN {α S R : Type} {l : List α} {i : Nat} {s : S} {f : α → S → Res (Fl S R)} {P : Fl S R → Prop} {E : Err → Prop} (h : Post (forR (l.drop i) s f) P E) (hi : l.length ≤ i) : P (.nx s) := by
  rw [List.drop_eq_nil_of_le hi] at h
  exact h.ok

/-! ### what stands for data -/
class Enc (α : Type) where
  enc : α → D
open Enc (enc)
structure Tp1 (α : Type) where
  a : α
structure Tp2 (α β : Type) where
  a : α
  b : β
structure Tp3 (α β γ : Type) where
  a : α
  b : β
  c : γ
structure Tp4 (α β γ δ : Type) where
  a : α
  b : β
  c : γ
  d : δ
structure Tp5 (α β γ δ ε : Type) where
  a : α
  b : β
  c : γ
  d : δ
  e : ε
instance : Enc Int := ⟨.int⟩
instance : Enc Bool := ⟨.bl⟩
instance : Enc Str := ⟨.str⟩
instance : Enc Unit := ⟨fun _ => .non⟩
instance : Enc D := ⟨id⟩
instance {α : Type} [Enc α] : Enc (List α) := ⟨fun l => .lst (l.map enc)⟩
instance {α : Type} [Enc α] : Enc (Option α) := ⟨fun o => match o with | some x => enc x | none => .non⟩
instance {α : Type} [Enc α] : Enc (Tp1 α) := ⟨fun t => .tup [enc t.a]⟩
instance {α β : Type} [Enc α] [Enc β] : Enc (Tp2 α β) := ⟨fun t => .tup [enc t.a, enc t.b]⟩
instance {α β γ : Type} [Enc α] [Enc β] [Enc γ] : Enc (Tp3 α β γ) := ⟨fun t => .tup [enc t.a, enc t.b, enc t.c]⟩
instance {α β γ δ : Type} [Enc α] [Enc β] [Enc γ] [Enc δ] : Enc (Tp4 α β γ δ) := ⟨fun t => .tup [enc t.a, enc t.b, enc t.c, enc t.d]⟩
instance {α β γ δ ε : Type} [Enc α] [Enc β] [Enc γ] [Enc δ] [Enc ε] : Enc (Tp5 α β γ δ ε) := ⟨fun t => .tup [enc t.a, enc t.b, enc t.c, enc t.d, enc t.e]⟩

/-- a list that may change: at p, outside of what is known for good -/
def Mu (K : PySem.W.Frag) (B H : Hp) (p : Addr) (ds : List D) : Prop := B p = none ∧ ∃ xs, H p = some (.lst xs) ∧ RepL K B xs ds
/-- a list that stands in the written part -/
def KL (K : PySem.W.Frag) (a : Addr) (xs : List V) : Prop := ∃ (o : Obj) (its : Array Value) (n : Nat), K.lookup a = some o ∧ o.cls = .type "list" ∧ o.dict = none ∧ o.data = .seq its n ∧ its.size ≤ sizeLine ∧ Vals xs its.toList
/-- a list that is read: at v now -/
def Bor (K : PySem.W.Frag) (B H : Hp) (W : List Addr) (v : V) (ds : List D) : Prop := ∃ p xs, v = .ref p ∧ ((Rd H p (.lst xs) ∧ p ∉ W) ∨ KL K p xs) ∧ RepL K B xs ds
/-- what a return hands on -/
def Ret (K : PySem.W.Frag) (W : List Addr) (B H : Hp) (d : D) (Q : VK) : Prop := ∀ v B' H', Stp W B H B' H' → Rep K B' v d → Q v H'
/-- .. where the list at p may have changed -/
def RetM (K : PySem.W.Frag) (p : Addr) (B H : Hp) (d : D) (ds : List D) (Q : VK) : Prop := ∀ v B' H', Stp [p] B H B' H' → Mu K B' H' p ds → Rep K B' v d → Q v H'
/-- .. that is raised -/
def Rai (mg : Str → Option Value) (W : List Addr) (B H : Hp) (e : Err) (E : XK) : Prop := ∀ C B' H', mg e.cls = some (.ref C) → Stp W B H B' H' → E (.ref C) none H'
section
variable {K : PySem.W.Frag} {B B' B1 H H' H1 : Hp} {W : List Addr} {p q : Addr} {ds es : List D} {xs : List V} {d : D} {v : V} {Q : VK} {mg : Str → Option Value} {E : XK}
theorem Mu.step (m : Mu K B H p ds) (s : Stp W B H B' H') (h : p ∉ W) : Mu K B' H' p ds := by
  obtain ⟨hb, xs, hp, r⟩ := m
  exact ⟨s.nw p _ hb hp, xs, s.fr p _ h hp, r.mono s.ex⟩
theorem Mu.new (w : Ex B H) (h : H p = none) (r : RepL K B xs ds) : Mu K B (upd H p (.lst xs)) p ds := ⟨w.none h, xs, upd_same, r⟩
theorem Mu.bor (m : Mu K B H p ds) (h : p ∉ W) : Bor K B H W (.ref p) ds := by
  obtain ⟨hb, xs, hp, r⟩ := m
  exact ⟨p, xs, rfl, .inl ⟨.inl hp, h⟩, r⟩
theorem Mu.ne (m : Mu K B H p ds) (h : H q = none) : p ≠ q := by
  obtain ⟨hb, xs, hp, r⟩ := m
  exact ne_of_none hp h
theorem Bor.step (m : Bor K B H W v ds) (s : Stp W B H B' H') : Bor K B' H' W v ds := by
  obtain ⟨p, xs, e, hp, r⟩ := m
  refine ⟨p, xs, e, ?_, r.mono s.ex⟩
  rcases hp with ⟨hp | ⟨o, hp⟩, hw⟩ | hp
  · exact .inl ⟨.inl (s.fr p _ hw hp), hw⟩
  · exact .inl ⟨.inr ⟨o, s.fr p _ hw hp⟩, hw⟩
  · exact .inr hp
theorem Bor.w {W' : List Addr} (m : Bor K B H W v ds) (h : ∀ x, x ∈ W' → x ∈ W) : Bor K B H W' v ds := by
  obtain ⟨p, xs, e, hp, r⟩ := m
  refine ⟨p, xs, e, ?_, r⟩
  rcases hp with ⟨hp, hw⟩ | hp
  · exact .inl ⟨hp, fun z => hw (h p z)⟩
  · exact .inr hp
theorem Bor.sq (m : Bor K B H W v ds) : ∃ p xs, v = .ref p ∧ SqL K H p xs ∧ RepL K B xs ds := by
  obtain ⟨p, xs, e, hp, r⟩ := m
  refine ⟨p, xs, e, ?_, r⟩
  rcases hp with ⟨hp, _⟩ | hp
  · exact .inl hp
  · exact .inr hp
theorem Rep.bor (w : Ex B H) (r : Rep K B v (.lst ds)) (h : ∀ x, x ∈ W → B x = none) : Bor K B H W v ds := by
  cases r with
  | @lst p xs _ hp r =>
    refine ⟨p, xs, rfl, ?_, r⟩
    rcases hp with hp | hp
    · refine .inl ⟨w.rd hp, fun z => ?_⟩
      have e := h p z
      rcases hp with hp | ⟨o, hp⟩
      · rw [hp] at e; cases e
      · rw [hp] at e; cases e
    · exact .inr hp
theorem Rep.bor0 (w : Ex B H) (r : Rep K B v (.lst ds)) : Bor K B H [] v ds := r.bor w (fun _ z => nomatch z)
theorem Rep.sq (w : Ex B H) (r : Rep K B v (.lst ds)) : ∃ p xs, v = .ref p ∧ SqL K H p xs ∧ RepL K B xs ds := by
  cases r with
  | @lst p xs _ hp r => exact ⟨p, xs, rfl, w.l hp, r⟩
theorem Rep.st (w : Ex B H) (r : Rep K B v (.tup ds)) : ∃ p xs, v = .ref p ∧ SqT K H p xs ∧ RepL K B xs ds := by
  cases r with
  | @tup p xs _ hp r => exact ⟨p, xs, rfl, w.t hp, r⟩
theorem Mu.sq (m : Mu K B H p ds) : ∃ xs, H p = some (.lst xs) ∧ SqL K H p xs ∧ RepL K B xs ds := by
  obtain ⟨hb, xs, hp, r⟩ := m
  exact ⟨xs, hp, SqL.of hp, r⟩
theorem Stp.mut (w : Ex B H) (m : Mu K B H p ds) (r : RepL K B xs es) : Stp [p] B H B (upd H p (.lst xs)) ∧ Mu K B (upd H p (.lst xs)) p es := by
  obtain ⟨hb, ys, hp, _⟩ := m
  exact ⟨Stp.set w (by simp) hb hp, hb, xs, upd_same, r⟩
end
/-- the built-in type of a thing -/
def tyD : D → String
  | .non => "NoneType" | .bl _ => "bool" | .int _ => "int" | .str _ => "str" | .lst _ => "list" | .tup _ => "tuple" | .dic _ => "dict"
theorem Rep.ty {K : PySem.W.Frag} {B H : Hp} {v : V} {d : D} (w : Ex B H) (r : Rep K B v d) : TyX K H v (.type (tyD d)) := by
  cases r with
  | non => exact .base .non
  | bl b => exact .base (.bl b)
  | int i => exact .base (.int i)
  | str x => exact .base (.str x)
  | lst h r =>
    rcases h with (h | ⟨o, h⟩) | ⟨o, its, n, h, hc, _⟩
    · exact .base (.lst (w _ _ h))
    · exact .base (.frz (w _ _ h))
    · exact .kList h hc
  | tup h r =>
    rcases h with (h | ⟨o, h⟩) | ⟨o, its, n, h, hc, _⟩
    · exact .base (.tup (w _ _ h))
    · exact .fTuple (w _ _ h)
    · exact .kTuple h hc
  | dic h r => exact .base (.dK (w _ _ h))
def isS (s t : String) : Bool := s == t || (s == "bool" && t == "int")
def isA (t : String) (d : D) : Bool := isS (tyD d) t
theorem kit_tab : ∀ s ∈ ["NoneType", "bool", "int", "str", "list", "tuple", "dict"], ∀ t ∈ ["bool", "int", "str", "list", "tuple", "dict"], kitB s t = some (isS s t) := by decide +kernel
theorem tyD_in (d : D) : tyD d ∈ ["NoneType", "bool", "int", "str", "list", "tuple", "dict"] := by cases d <;> simp [tyD]
/-- isinstance(x, int | bool | str | list | tuple | dict) -/
theorem isi {K : PySem.W.Frag} {B H : Hp} {v : V} {d : D} {t : String} {Q : VK} (w : Ex B H) (r : Rep K B v d) (q : Q (.bl (isA t d)) H) (ht : t ∈ ["bool", "int", "str", "list", "tuple", "dict"] := by simp) : rIsi K [v, .ty t] H Q :=
  ⟨v, .ty t, _, .type t, isA t d, rfl, .ty t, r.ty w, kit_ty (kit_tab _ (tyD_in d) _ ht), q⟩
theorem boot_bool : bootBuiltins "bool" = some (.type "bool") := by decide +kernel
theorem boot_int : bootBuiltins "int" = some (.type "int") := by decide +kernel
theorem boot_str : bootBuiltins "str" = some (.type "str") := by decide +kernel
theorem boot_list : bootBuiltins "list" = some (.type "list") := by decide +kernel
theorem boot_tuple : bootBuiltins "tuple" = some (.type "tuple") := by decide +kernel
theorem boot_dict : bootBuiltins "dict" = some (.type "dict") := by decide +kernel

/-! ### readings, step by step -/
def NwL (xs : List V) (H : Hp) (Q : VK) : Prop := ∀ p, H p = none → Q (.ref p) (upd H p (.lst xs))
def NwT (xs : List V) (H : Hp) (Q : VK) : Prop := ∀ p, H p = none → Q (.ref p) (upd H p (.tup xs))
def NewL (xs : List V) (H : Hp) (Q : VK) : Prop := xs.length ≤ sizeLine ∧ NwL xs H Q
def NewT (xs : List V) (H : Hp) (Q : VK) : Prop := xs.length ≤ sizeLine ∧ NwT xs H Q
section
variable {K : PySem.W.Frag} {σ σ' : L2.St} {H : Hp} {Q : VK} {D' : Ends} {te ta tb tc : TE} {tt tt' : TT} {t u z : TS} {tl : TA} {v x y : V} {i j : Int} {n : Nat} {r r' : R2} {W : List Addr}
theorem h_seq (h : t { D' with nx := u D' } σ H) : tSeq t u D' σ H := h
theorem h_set (h : te σ H fun x H1 => u D' (σ.set n (some x)) H1) : tSeq (tAsg te (gName n)) u D' σ H := h
theorem h_set1 (h : te σ H fun x H1 => D'.nx (σ.set n (some x)) H1) : tAsg te (gName n) D' σ H := h
theorem h_nrm {T : L2.St → Hp → Prop} (h : T σ' H) (e : σ' = σ := by rfl) : T σ H := e ▸ h
theorem h_drop (h : te σ H fun _ H1 => D'.nx σ H1) : tDrop te D' σ H := h
theorem h_ret (h : te σ H D'.rt) : tRet te D' σ H := h
theorem h_if {c : TT} (h : c σ H fun b H1 => if b = true then t D' σ H1 else u D' σ H1) : tIfS c t u D' σ H := h
theorem h_next (h : D'.nx σ H) : tNext D' σ H := h
theorem h_nx {a c d : L2.St → Hp → Prop} {b : VK} (h : a σ H) : (Ends.mk a b c d).nx σ H := h
theorem h_var (e : σ[n]? = some (some v)) (h : Q v H) : tVar n σ H Q := ⟨v, e, h⟩
theorem h_c (h : Q v H) : tC v σ H Q := h
theorem h_op (h : ta σ H fun x H1 => tb σ H1 fun y H2 => r x y H2 Q) : tOp r ta tb σ H Q := h
theorem h_I0 {g : Int → Int → V} (h : Q (g i j) H) : rI0 g (.int i) (.int j) H Q := ⟨i, j, rfl, rfl, h⟩
theorem h_I {C : Int → Int → Prop} {g : Int → Int → V} (c : C i j) (h : Q (g i j) H) : rI C g (.int i) (.int j) H Q := ⟨i, j, rfl, rfl, c, h⟩
theorem h_un {f : V → Hp → VK → Prop} (h : ta σ H fun x H1 => f x H1 Q) : tUn f ta σ H Q := h
theorem h_U {g : Int → V} (h : Q (g i) H) : rU g (.int i) H Q := ⟨i, rfl, h⟩
theorem h_eq (s : scal x y = true) (h : Q (.bl (decide (x = y))) H) : rEq x y H Q := ⟨s, h⟩
theorem h_ne (s : scal x y = true) (h : Q (.bl (!decide (x = y))) H) : rNe x y H Q := ⟨s, h⟩
theorem dec_i : decide (V.int i = V.int j) = decide (i = j) := by simp
theorem dec_b {i j : Bool} : decide (V.bl i = V.bl j) = decide (i = j) := by simp
theorem dec_s {i j : Str} : decide (V.str i = V.str j) = decide (i = j) := by simp
theorem h_eqI (h : Q (.bl (decide (i = j))) H) : rEq (.int i) (.int j) H Q := ⟨rfl, by rw [dec_i]; exact h⟩
theorem h_neI (h : Q (.bl (!decide (i = j))) H) : rNe (.int i) (.int j) H Q := ⟨rfl, by rw [dec_i]; exact h⟩
theorem h_eqS {i j : Str} (h : Q (.bl (decide (i = j))) H) : rEq (.str i) (.str j) H Q := ⟨rfl, by rw [dec_s]; exact h⟩
theorem h_neS {i j : Str} (h : Q (.bl (!decide (i = j))) H) : rNe (.str i) (.str j) H Q := ⟨rfl, by rw [dec_s]; exact h⟩
theorem h_eqB {i j : Bool} (h : Q (.bl (decide (i = j))) H) : rEq (.bl i) (.bl j) H Q := ⟨rfl, by rw [dec_b]; exact h⟩
theorem h_neB {i j : Bool} (h : Q (.bl (!decide (i = j))) H) : rNe (.bl i) (.bl j) H Q := ⟨rfl, by rw [dec_b]; exact h⟩
theorem h_chain (h : ta σ H fun x H1 => tb σ H1 fun y H2 => r x y H2 fun z H3 => ∃ k, z = .bl k ∧ (if k = true then tc σ H3 fun w' H4 => r' y w' H4 Q else Q (.bl false) H3)) : tChain r r' ta tb tc σ H Q := h
theorem h_chk {k : Bool} {A : Prop} {w : V} {f : Bool → Prop} (hw : w = .bl k) (h : f k) : ∃ k, w = .bl k ∧ f k := ⟨k, hw, h⟩
theorem h_and (h : ta σ H fun x H1 => ∃ c, x = .bl c ∧ if c = true then tb σ H1 Q else Q (.bl false) H1) : tAndV ta tb σ H Q := h
theorem h_or (h : ta σ H fun x H1 => ∃ c, x = .bl c ∧ if c = true then Q (.bl true) H1 else tb σ H1 Q) : tOrV ta tb σ H Q := h
theorem h_not (h : ta σ H fun x H1 => ∃ c, x = .bl c ∧ Q (.bl (!c)) H1) : tNotV ta σ H Q := h
theorem h_tand {Q : Bool → Hp → Prop} (h : tt σ H fun c H1 => if c = true then tt' σ H1 Q else Q false H1) : tAnd tt tt' σ H Q := h
theorem h_tor {Q : Bool → Hp → Prop} (h : tt σ H fun c H1 => if c = true then Q true H1 else tt' σ H1 Q) : tOr tt tt' σ H Q := h
theorem h_tnot {Q : Bool → Hp → Prop} (h : tt σ H fun c H1 => Q (!c) H1) : tNot tt σ H Q := h
theorem h_test {Q : Bool → Hp → Prop} (h : te σ H fun x H' => ∃ k, x = .bl k ∧ Q k H') : tTest te σ H Q := h
theorem h_tB {Q : Bool → Hp → Prop} (h : te σ H fun x H' => ∃ k, x = .bl k ∧ Q k H') : tB te σ H Q := h
theorem h_bl {b : Bool} {f : Bool → Prop} (h : f b) : ∃ k, V.bl b = .bl k ∧ f k := ⟨b, rfl, h⟩
theorem h_iteT {A B : Prop} (h : A) : if true = true then A else B := by rw [if_pos rfl]; exact h
theorem h_iteF {A B : Prop} (h : B) : if false = true then A else B := by rw [if_neg Bool.false_ne_true]; exact h
theorem h_ite {b : Bool} {A B : Prop} (h1 : b = true → A) (h2 : b = false → B) : if b = true then A else B := by
  cases b
  · exact h_iteF (h2 rfl)
  · exact h_iteT (h1 rfl)
theorem h_ifE {c : TT} (h : c σ H fun b H1 => if b = true then ta σ H1 Q else tb σ H1 Q) : tIf c ta tb σ H Q := h
theorem h_nil {Q : List V → Hp → Prop} (h : Q [] H) : tNil σ H Q := h
theorem h_cons {Q : List V → Hp → Prop} (h : te σ H fun x H1 => tl σ H1 fun xs H2 => Q (x :: xs) H2) : tCons te tl σ H Q := h
theorem h_cb {f : List V → Hp → VK → Prop} (h : tl σ H fun vs H1 => f vs H1 Q) : tCB f tl σ H Q := h
theorem h_call {sp : Sp} {dvs : List V} {E : XK} (h : tl σ H fun vs H1 => sp (vs ++ dvs) H1 Q E) : tCall sp dvs E tl σ H Q := h
theorem h_callS {sp : Sp} {E : L2.St → XK} (h : tl σ H fun vs H1 => sp vs H1 Q (E σ)) : tCallS sp E tl σ H Q := h
theorem h_tup (h : tl σ H fun xs H1 => NewT xs H1 Q) : tTup tl σ H Q := h
theorem h_lst (h : tl σ H fun xs H1 => NewL xs H1 Q) : tLst tl σ H Q := h
theorem h_ixL {p : Addr} {xs : List V} (s : SqL K H p xs) (e : atI xs i = some v) (h : Q v H) : rIxL K (.ref p) (.int i) H Q := ⟨p, xs, i, v, rfl, rfl, s, e, h⟩
theorem h_ixT {p : Addr} {xs : List V} (s : SqT K H p xs) (e : atI xs i = some v) (h : Q v H) : rIxT K (.ref p) (.int i) H Q := ⟨p, xs, i, v, rfl, rfl, s, e, h⟩
end

section
variable {K : PySem.W.Frag} {σ : L2.St} {B B1 B' H H1 H' B0 H0 : Hp} {Q : VK} {W W' : List Addr} {p q : Addr} {xs ys : List V} {ds es : List D} {v : V} {d : D} {i j : Int} {te ta tb : TE}
theorem h_newL (w : Ex B H) (r : RepL K B xs ds) (h : ∀ p B' H', Stp [] B H B' H' → Rep K B' (.ref p) (.lst ds) → Q (.ref p) H') (hn : xs.length ≤ sizeLine) : NewL xs H Q :=
  ⟨hn, fun p hp => h p _ _ (Stp.new w hp) (.lst (SqL.of upd_same) (r.mono (Ex.new (w.none hp))))⟩
theorem h_newT (w : Ex B H) (r : RepL K B xs ds) (h : ∀ p B' H', Stp [] B H B' H' → Rep K B' (.ref p) (.tup ds) → Q (.ref p) H') (hn : xs.length ≤ sizeLine) : NewT xs H Q :=
  ⟨hn, fun p hp => h p _ _ (Stp.new w hp) (.tup (SqT.of upd_same) (r.mono (Ex.new (w.none hp))))⟩
theorem h_newM (w : Ex B H) (r : RepL K B xs ds) (h : ∀ p H', H p = none → Stp [] B H B H' → Mu K B H' p ds → Q (.ref p) H') (hn : xs.length ≤ sizeLine) : NewL xs H Q :=
  ⟨hn, fun p hp => h p _ hp (Stp.newM w hp) (Mu.new w hp r)⟩
theorem h_nwL (w : Ex B H) (r : RepL K B xs ds) (h : ∀ p B' H', Stp [] B H B' H' → Rep K B' (.ref p) (.lst ds) → Q (.ref p) H') : NwL xs H Q :=
  fun p hp => h p _ _ (Stp.new w hp) (.lst (SqL.of upd_same) (r.mono (Ex.new (w.none hp))))
theorem h_nwT (w : Ex B H) (r : RepL K B xs ds) (h : ∀ p B' H', Stp [] B H B' H' → Rep K B' (.ref p) (.tup ds) → Q (.ref p) H') : NwT xs H Q :=
  fun p hp => h p _ _ (Stp.new w hp) (.tup (SqT.of upd_same) (r.mono (Ex.new (w.none hp))))
theorem h_nwM (w : Ex B H) (r : RepL K B xs ds) (h : ∀ p H', H p = none → Stp [] B H B H' → Mu K B H' p ds → Q (.ref p) H') : NwL xs H Q :=
  fun p hp => h p _ hp (Stp.newM w hp) (Mu.new w hp r)
/-- what was free now was free at the entry -/
theorem Stp.nn (s : Stp W B0 H0 B H) (h : H p = none) : H0 p = none := by
  cases e : H0 p with
  | none => rfl
  | some o => obtain ⟨u, q⟩ := s.al p o e; rw [h] at q; cases q
/-- a step that writes at an object of our own -/
theorem Stp.own2 (a : Stp W B0 H0 B H) (s : Stp [p] B H B' H') (h0 : H0 p = none) : Stp W B0 H0 B' H' :=
  ⟨a.ex.trans s.ex, s.ok, fun x u hx e => s.fr x u (fun z => by
      rw [List.mem_singleton.mp z, h0] at e; cases e) (a.fr x u hx e), fun x u e => let ⟨u1, e1⟩ := a.al x u e; s.al x u1 e1, fun x u hb e => let ⟨u1, e1⟩ := a.al x u e; s.nw x u1 (a.nw x u hb e) e1⟩
theorem nm0 : p ∉ ([] : List Addr) := fun z => nomatch z
theorem nm1 (h : p ≠ q) : p ∉ [q] := fun z => h (List.mem_singleton.mp z)
theorem sub0 : ∀ x, x ∈ ([] : List Addr) → x ∈ W := fun _ z => nomatch z
/-- a list of our own is kept as it is -/
theorem Mu.keep (m : Mu K B H p ds) : ∃ B', Ex B B' ∧ (∀ q, q ≠ p → B q = none → B' q = none) ∧ (∀ W B0 H0, Stp W B0 H0 B H → Ex B0 H0 → H0 p = none → Stp W B0 H0 B' H) ∧ Rep K B' (.ref p) (.lst ds) := by
  obtain ⟨hb, xs, hp, r⟩ := m
  exact ⟨upd B p (.lst xs), Ex.new hb, fun q n e => by rw [upd_ne n]; exact e, fun W B0 H0 st w0 h0 => Stp.keep w0 st h0 hb hp, .lst (SqL.of upd_same) (r.mono (Ex.new hb))⟩
/-- a step that writes at what may be written and at objects of our own -/
theorem Stp.go (a : Stp W B0 H0 B H) (s : Stp W' B H B' H') (h : ∀ p, p ∈ W' → p ∈ W ∨ H0 p = none) : Stp W B0 H0 B' H' :=
  ⟨a.ex.trans s.ex, s.ok, fun x u hx e => s.fr x u (fun z => by
      rcases h x z with q | q
      · exact hx q
      · rw [q] at e; cases e) (a.fr x u hx e), fun x u e => let ⟨u1, e1⟩ := a.al x u e; s.al x u1 e1, fun x u hb e => let ⟨u1, e1⟩ := a.al x u e; s.nw x u1 (a.nw x u hb e) e1⟩
theorem go0 {F : Addr → Prop} : ∀ x, x ∈ ([] : List Addr) → F x := fun _ z => nomatch z
theorem go1 {F : Addr → Prop} (h : F p) : ∀ x, x ∈ [p] → F x := fun x z => by rw [List.mem_singleton.mp z]; exact h
theorem go2 {F : Addr → Prop} (h : F p) (h' : F q) : ∀ x, x ∈ [p, q] → F x := fun x z => by
  rcases List.mem_cons.mp z with e | e
  · rw [e]; exact h
  · rw [List.mem_singleton.mp e]; exact h'
theorem nm2 {r : Addr} (h : p ≠ q) (h' : p ≠ r) : p ∉ [q, r] := fun z => by
  rcases List.mem_cons.mp z with e | e
  · exact h e
  · exact h' (List.mem_singleton.mp e)
theorem Mu.kp (m : Mu K B H q es) (e : Ex B B') (k : ∀ q, q ≠ p → B q = none → B' q = none) (n : q ≠ p) : Mu K B' H q es := by
  obtain ⟨hb, xs, hp, r⟩ := m
  exact ⟨k q n hb, xs, hp, r.mono e⟩
theorem RepL.atE {α : Type} [Enc α] {l : List α} {x : α} (r : RepL K B xs (l.map enc)) (h : atI l i = some x) : ∃ v, atI xs i = some v ∧ Rep K B v (enc x) := by
  refine r.at ?_
  unfold atI at h ⊢
  rw [List.length_map]
  cases e : ixN l.length i with
  | none => rw [e] at h; cases h
  | some k =>
    rw [e] at h
    show (l.map enc)[k]? = _
    rw [List.getElem?_map, show l[k]? = some x from h]
    rfl
theorem h_pow {k : Int} (e : i ^ j.toNat = k) (c : CPow i j) (h : Q (.int k) H) : rI CPow (fun i j => .int (i ^ j.toNat)) (.int i) (.int j) H Q := ⟨i, j, rfl, rfl, c, by show Q (.int (i ^ j.toNat)) H; rw [e]; exact h⟩
instance (i j : Int) : Decidable (CPow i j) := by unfold CPow; infer_instance
instance (i j : Int) : Decidable (CMul i j) := by unfold CMul; infer_instance
instance (i j : Int) : Decidable (CDiv i j) := by unfold CDiv; infer_instance
def absI (i : Int) : Int := if i < 0 then -i else i
def b2z (b : Bool) : Int := if b then 1 else 0
theorem h_isB {a b : Bool} (h : Q (.bl (decide (a = b))) H) : rIsB (.bl a) (.bl b) H Q := ⟨a, b, rfl, rfl, h⟩
theorem h_isnotB {a b : Bool} (h : Q (.bl (!decide (a = b))) H) : rNotB (.bl a) (.bl b) H Q := ⟨a, b, rfl, rfl, h⟩
def rLenY (K : PySem.W.Frag) : List V → Hp → VK → Prop := fun xs H Q => ∃ p ys, xs = [.ref p] ∧ (SqL K H p ys ∨ SqT K H p ys) ∧ Q (.int ys.length) H
def rAbsY : List V → Hp → VK → Prop := fun xs H Q => ∃ i, xs = [.int i] ∧ Q (.int (if i < 0 then -i else i)) H
def rIntY : List V → Hp → VK → Prop := fun xs H Q => (∃ i, xs = [.int i] ∧ Q (.int i) H) ∨ ∃ k, xs = [.bl k] ∧ Q (.int (if k then 1 else 0)) H
def rStrY : List V → Hp → VK → Prop := fun xs H Q => ∃ i, xs = [.int i] ∧ i.natAbs.log2 < 1920 ∧ Q (.str (toString i)) H
def rListY (K : PySem.W.Frag) : List V → Hp → VK → Prop := fun xs H Q => ∃ p ys, xs = [.ref p] ∧ (SqL K H p ys ∨ SqT K H p ys) ∧ ∀ l, H l = none → Q (.ref l) (upd H l (.lst ys))
def rTupY (K : PySem.W.Frag) : List V → Hp → VK → Prop := fun xs H Q => ∃ p ys, xs = [.ref p] ∧ ((SqL K H p ys ∧ ∀ l, H l = none → Q (.ref l) (upd H l (.tup ys))) ∨ (SqT K H p ys ∧ Q (.ref p) H))
theorem cr_len {X : Cx} : CallR X (.builtin "len") (rLenY X.K) := call_len_seq
theorem cr_abs {X : Cx} : CallR X (.builtin "abs") rAbsY := call_abs
theorem cr_int {X : Cx} : CallR X (.type "int") rIntY := call_int1
theorem cr_str {X : Cx} : CallR X (.type "str") rStrY := call_str_int
theorem cr_list {X : Cx} : CallR X (.type "list") (rListY X.K) := call_list_of
theorem cr_tuple {X : Cx} : CallR X (.type "tuple") (rTupY X.K) := call_tuple_of
theorem h_len {α : Type} [Enc α] {l : List α} (s : SqL K H p xs) (r : RepL K B xs (l.map enc)) (h : Q (.int l.length) H) : rLenY K [V.ref p] H Q := by
  refine ⟨p, xs, rfl, .inl s, ?_⟩
  rw [show xs.length = l.length from by rw [r.length, List.length_map]]
  exact h
theorem h_lenT (s : SqT K H p xs) (r : RepL K B xs ds) (h : Q (.int ds.length) H) : rLenY K [V.ref p] H Q := by
  refine ⟨p, xs, rfl, .inr s, ?_⟩
  rw [r.length]
  exact h
theorem h_abs (h : Q (.int (absI i)) H) : rAbsY [V.int i] H Q := ⟨i, rfl, h⟩
theorem h_intB {b : Bool} (h : Q (.int (b2z b)) H) : rIntY [V.bl b] H Q := .inr ⟨b, rfl, h⟩
theorem h_intI (h : Q (.int i) H) : rIntY [V.int i] H Q := .inl ⟨i, rfl, h⟩
theorem h_str (c : i.natAbs.log2 < 1920) (h : Q (.str (toString i)) H) : rStrY [V.int i] H Q := ⟨i, rfl, c, h⟩
theorem h_listL (s : SqL K H p xs) (h : NwL xs H Q) : rListY K [V.ref p] H Q := ⟨p, xs, rfl, .inl s, h⟩
theorem h_listT (s : SqT K H p xs) (h : NwL xs H Q) : rListY K [V.ref p] H Q := ⟨p, xs, rfl, .inr s, h⟩
theorem h_tupL (s : SqL K H p xs) (h : NwT xs H Q) : rTupY K [V.ref p] H Q := ⟨p, xs, rfl, .inl ⟨s, h⟩⟩
theorem h_iteN {b : Bool} {A C : Prop} (h1 : b = false → A) (h2 : b = true → C) : if (!b) = true then A else C := by
  cases b
  · exact h_iteT (h1 rfl)
  · exact h_iteF (h2 rfl)
theorem h_iteNT {A C : Prop} (h : C) : if (!true) = true then A else C := h_iteF h
theorem h_iteNF {A C : Prop} (h : A) : if (!false) = true then A else C := h_iteT h
theorem Post.iteTn {α : Type} {m m' : Res α} {P : α → Prop} {R : Err → Prop} {c : Bool} (h : Post (if (!c) = true then m else m') P R) (hc : c = false) : Post m P R := by
  rw [hc] at h; exact h
theorem Post.iteFn {α : Type} {m m' : Res α} {P : α → Prop} {R : Err → Prop} {c : Bool} (h : Post (if (!c) = true then m else m') P R) (hc : c = true) : Post m' P R := by
  rw [hc] at h; exact h
end

/-! ### joins, loops, comprehensions, in step with the mirror -/
section
variable {K : PySem.W.Frag} {σ : L2.St} {B B1 B' H H1 H' B0 H0 : Hp} {Q : VK} {W W' : List Addr} {p q : Addr} {xs ys : List V} {ds es : List D} {v : V} {d : D} {t z tb : TS} {te : TE} {c tt : TT} {D' : Ends} {g : TG} {ti : TI}
variable {α β S R' : Type} {P : β → Prop} {R : Err → Prop}
theorem h_joinS {m : Res α} {k : α → Res β} (hP : Post (m.bind k) P R) (J : α → L2.St → Hp → Prop)
    (h1 : ∀ N : L2.St → Hp → Prop, (∀ a σ' H', J a σ' H' → Post (k a) P R → N σ' H') → Post m (fun a => Post (k a) P R) R → t { D' with nx := N } σ H)
    (h2 : ∀ a σ' H', J a σ' H' → Post (k a) P R → z D' σ' H') : tSeq t z D' σ H := h1 _ h2 hP.bind
theorem h_condJ {m : Res Bool} {k : Bool → Res β} {Qb : Bool → Hp → Prop} (hP : Post (m.bind k) P R) (J : Hp → Prop)
    (h1 : ∀ N : Bool → Hp → Prop, (∀ b H', J H' → Post (k b) P R → N b H') → Post m (fun b => Post (k b) P R) R → c σ H N)
    (h2 : ∀ b H', J H' → Post (k b) P R → Qb b H') : c σ H Qb := h1 _ h2 hP.bind
theorem h_exprJ {m : Res α} {k : α → Res β} (hP : Post (m.bind k) P R) (J : α → V → Hp → Prop)
    (h1 : ∀ N : VK, (∀ a v H', J a v H' → Post (k a) P R → N v H') → Post m (fun a => Post (k a) P R) R → te σ H N)
    (h2 : ∀ a v H', J a v H' → Post (k a) P R → Q v H') : te σ H Q := h1 _ h2 hP.bind
theorem h_gname {n : Nat} {Q : L2.St → Hp → Prop} (h : Q (σ.set n (some v)) H) : gName n v σ H Q := h
/-- behind a loop -/
def afterR (k : S → Res β) : Fl S β → Res β
  | .nx s => k s | .rt r => .ok r | .bk s => k s
/-- what a turn hands on -/
def turnR (l : List α) (f : α → S → Res (Fl S R')) (i : Nat) (P : Fl S R' → Prop) (R : Err → Prop) : Fl S R' → Prop
  | .nx s => Post (forR (l.drop i) s f) P R | .rt r => P (.rt r) | .bk s => P (.bk s)
theorem Post.turn {l : List α} {i : Nat} {s : S} {f : α → S → Res (Fl S R')} {P : Fl S R' → Prop} {x : α} (h : Post (forR (l.drop i) s f) P R) (hx : l[i]? = some x) : Post (f x s) (turnR l f (i + 1) P R) R :=
  (Post.forS h hx).mono (fun r q => by cases r <;> exact q) fun _ q => q

theorem h_forE (h : te σ H fun x H1 => tFor (iList K (tC x)) g tb D' σ H1) : tFor (iList K te) g tb D' σ H := h
theorem h_forL [Enc α] {l : List α} {s0 : S} {f : α → S → Res (Fl S β)} {k : S → Res β} (hP : Post ((forR l s0 f).bind (afterR k)) P R) (hs : SqL K H p xs) (hr : RepL K B xs (l.map enc))
    (J : S → L2.St → Hp → Prop) (h0 : J s0 σ H) (hl : ∀ s σ' H', J s σ' H' → SqL K H' p xs)
    (hb : ∀ (N : L2.St → Hp → Prop) (T : Fl S β → Prop) (x : α) v s σ' H', J s σ' H' → Rep K B v (enc x) → (∀ s' σ2 H2, J s' σ2 H2 → T (.nx s') → N σ2 H2) → (∀ r, T (.rt r) → P r) → (∀ s' σ2 H2, J s' σ2 H2 → T (.bk s') → D'.nx σ2 H2) → Post (f x s) T R →
      g v σ' H' fun σ2 H2 => tb { D' with nx := N, ct := N, bk := D'.nx } σ2 H2)
    (hd : ∀ s σ' H', J s σ' H' → Post (k s) P R → D'.nx σ' H') : tFor (iList K (tC (.ref p))) g tb D' σ H := by
  refine ⟨p, rfl, ⟨xs, hs⟩, for_list (K := K) (a := p) (xs := xs) (fun i σ' H' => ∃ s, J s σ' H' ∧ Post (forR (l.drop i) s f) (fun a => Post (afterR k a) P R) R) ⟨s0, h0, hP.bind⟩ (fun i σ' H' _ ⟨s, j, _⟩ => hl s σ' H' j) ?_ ?_⟩
  · rintro i y σ' H' hi ⟨s, j, q⟩
    obtain ⟨x, hx⟩ : ∃ x, l[i]? = some x := by
      have h1 := (List.getElem?_eq_some_iff.mp hi).1
      rw [hr.length, List.length_map] at h1
      exact ⟨l[i], List.getElem?_eq_getElem h1⟩
    obtain ⟨u, hu, ru⟩ := hr.get (i := i) (d := enc x) (by rw [List.getElem?_map, hx]; rfl)
    rw [hi] at hu; cases hu
    exact hb _ _ x y s σ' H' j ru (fun s' σ2 H2 j2 t2 => ⟨s', j2, t2⟩) (fun r t2 => (t2 : Post (.ok r) P R).ok) (fun s' σ2 H2 j2 t2 => hd s' σ2 H2 j2 t2) (q.turn hx)
  · rintro σ' H' ⟨s, j, q⟩
    exact hd s σ' H' j (q.forN (by rw [hr.length, List.length_map]; exact Nat.le_refl _))
/-- the ints from lo on, below hi -/
def rngI (lo hi : Int) : List Int := (List.range (hi - lo).toNat).map fun (i : Nat) => lo + (i : Int)
theorem rngI_get {lo hi : Int} {i : Nat} (h : i < (hi - lo).toNat) : (rngI lo hi)[i]? = some (lo + (i : Int)) := by
  unfold rngI
  rw [List.getElem?_map, List.getElem?_range h]
  rfl
theorem rngI_len {lo hi : Int} : (rngI lo hi).length = (hi - lo).toNat := by
  unfold rngI
  rw [List.length_map, List.length_range]
def Rng1 (vs : List V) (g : TG) (tb : TS) (D' : Ends) (σ : L2.St) (H : Hp) : Prop := tFor (iRng1 (fun _ H Q => Q vs H)) g tb D' σ H
def Rng2 (vs : List V) (g : TG) (tb : TS) (D' : Ends) (σ : L2.St) (H : Hp) : Prop := tFor (iRng2 (fun _ H Q => Q vs H)) g tb D' σ H
theorem h_rng1 {ta : TA} (h : ta σ H fun vs H1 => Rng1 vs g tb D' σ H1) : tFor (iRng1 ta) g tb D' σ H := h
theorem h_rng2 {ta : TA} (h : ta σ H fun vs H1 => Rng2 vs g tb D' σ H1) : tFor (iRng2 ta) g tb D' σ H := h
theorem forRng {lo hi : Int} {s0 : S} {f : Int → S → Res (Fl S β)} {k : S → Res β} (hP : Post ((forR (rngI lo hi) s0 f).bind (afterR k)) P R)
    (J : S → L2.St → Hp → Prop) (h0 : J s0 σ H)
    (hb : ∀ (N : L2.St → Hp → Prop) (T : Fl S β → Prop) (x : Int) s σ' H', J s σ' H' → lo ≤ x → x < hi → (∀ s' σ2 H2, J s' σ2 H2 → T (.nx s') → N σ2 H2) → (∀ r, T (.rt r) → P r) → (∀ s' σ2 H2, J s' σ2 H2 → T (.bk s') → D'.nx σ2 H2) → Post (f x s) T R →
      g (.int x) σ' H' fun σ2 H2 => tb { D' with nx := N, ct := N, bk := D'.nx } σ2 H2)
    (hd : ∀ s σ' H', J s σ' H' → Post (k s) P R → D'.nx σ' H') :
    ∃ W : Nat → Nat → L2.St → Hp → Prop, (∃ m, W 0 m σ H) ∧ ∀ i m σ H, W i m σ H →
      ((Itr lo (hi - lo).toNat).stop i H ∧ D'.nx σ H) ∨ ((Itr lo (hi - lo).toNat).go i H ∧ ∃ N : L2.St → Hp → Prop, (∀ σ' H', N σ' H' → ∃ m', m' < m ∧ W (i + 1) m' σ' H') ∧ ∀ x H', (Itr lo (hi - lo).toNat).yld i H x H' → g x σ H' fun σ2 H2 => tb { D' with nx := N, ct := N, bk := D'.nx } σ2 H2) := by
  refine for_range (lo := lo) (n := (hi - lo).toNat) (fun i σ' H' => ∃ s, J s σ' H' ∧ Post (forR ((rngI lo hi).drop i) s f) (fun a => Post (afterR k a) P R) R) ⟨s0, h0, hP.bind⟩ ?_ ?_
  · rintro i σ' H' hi' ⟨s, j, q⟩
    exact hb _ _ (lo + (i : Int)) s σ' H' j (by omega) (by omega) (fun s' σ2 H2 j2 t2 => ⟨s', j2, t2⟩) (fun r t2 => (t2 : Post (.ok r) P R).ok) (fun s' σ2 H2 j2 t2 => hd s' σ2 H2 j2 t2) (q.turn (rngI_get hi'))
  · rintro σ' H' ⟨s, j, q⟩
    exact hd s σ' H' j (q.forN (by rw [rngI_len]; exact Nat.le_refl _))
theorem h_forR1 {hi : Int} {s0 : S} {f : Int → S → Res (Fl S β)} {k : S → Res β} (hP : Post ((forR (rngI 0 hi) s0 f).bind (afterR k)) P R) (hz : -(2 ^ 62) ≤ hi ∧ hi < 2 ^ 62)
    (J : S → L2.St → Hp → Prop) (h0 : J s0 σ H)
    (hb : ∀ (N : L2.St → Hp → Prop) (T : Fl S β → Prop) (x : Int) s σ' H', J s σ' H' → 0 ≤ x → x < hi → (∀ s' σ2 H2, J s' σ2 H2 → T (.nx s') → N σ2 H2) → (∀ r, T (.rt r) → P r) → (∀ s' σ2 H2, J s' σ2 H2 → T (.bk s') → D'.nx σ2 H2) → Post (f x s) T R →
      g (.int x) σ' H' fun σ2 H2 => tb { D' with nx := N, ct := N, bk := D'.nx } σ2 H2)
    (hd : ∀ s σ' H', J s σ' H' → Post (k s) P R → D'.nx σ' H') : Rng1 [.int hi] g tb D' σ H := by
  have q := forRng hP J h0 hb hd
  rw [Int.sub_zero] at q
  exact ⟨hi, rfl, hz.1, hz.2, q⟩
theorem h_forR2 {lo hi : Int} {s0 : S} {f : Int → S → Res (Fl S β)} {k : S → Res β} (hP : Post ((forR (rngI lo hi) s0 f).bind (afterR k)) P R) (hz : (-(2 ^ 62) ≤ lo ∧ lo < 2 ^ 62) ∧ -(2 ^ 62) ≤ hi ∧ hi < 2 ^ 62)
    (J : S → L2.St → Hp → Prop) (h0 : J s0 σ H)
    (hb : ∀ (N : L2.St → Hp → Prop) (T : Fl S β → Prop) (x : Int) s σ' H', J s σ' H' → lo ≤ x → x < hi → (∀ s' σ2 H2, J s' σ2 H2 → T (.nx s') → N σ2 H2) → (∀ r, T (.rt r) → P r) → (∀ s' σ2 H2, J s' σ2 H2 → T (.bk s') → D'.nx σ2 H2) → Post (f x s) T R →
      g (.int x) σ' H' fun σ2 H2 => tb { D' with nx := N, ct := N, bk := D'.nx } σ2 H2)
    (hd : ∀ s σ' H', J s σ' H' → Post (k s) P R → D'.nx σ' H') : Rng2 [.int lo, .int hi] g tb D' σ H :=
  ⟨lo, hi, rfl, ⟨hz.1.1, hz.1.2, hz.2.1, hz.2.2⟩, forRng hP J h0 hb hd⟩

/-! comprehensions -/
def compL : List α → S → (α → S → Res (Option R' × S)) → Res (List R' × S)
  | [], s, _ => .ok ([], s)
  | x :: xs, s, f => (f x s).bind fun r => (compL xs r.2 f).bind fun q => .ok (match r.1 with | some b => b :: q.1 | none => q.1, q.2)
def compR (l : List α) (s : S) (f : α → S → Res (Option R' × S)) : Res (List R' × S) := guardR (l.length ≤ 1000000) (compL l s f)
def compT (l : List α) (f : α → S → Res (Option R' × S)) (k : List R' × S → Res β) (acc : List R') (P : β → Prop) (R : Err → Prop) : Option R' × S → Prop
  | (some b, s) => Post ((compL l s f).bind fun q => k (acc ++ [b] ++ q.1, q.2)) P R
  | (none, s) => Post ((compL l s f).bind fun q => k (acc ++ q.1, q.2)) P R
theorem Post.compS {l : List α} {i : Nat} {s : S} {f : α → S → Res (Option R' × S)} {k : List R' × S → Res β} {acc : List R'} {x : α} (h : Post ((compL (l.drop i) s f).bind fun q => k (acc ++ q.1, q.2)) P R) (hx : l[i]? = some x) :
    Post (f x s) (compT (l.drop (i + 1)) f k acc P R) R := by
  obtain ⟨hi, e⟩ := List.getElem?_eq_some_iff.mp hx
  rw [List.drop_eq_getElem_cons hi, e] at h
  have h2 := (Post.bind (Post.bind h))
  refine h2.mono (fun r q => ?_) fun _ q => q
  obtain ⟨o, s'⟩ := r
  cases o with
  | some b =>
    show Post ((compL (l.drop (i + 1)) s' f).bind fun q => k (acc ++ [b] ++ q.1, q.2)) P R
    have q1 : Post ((compL (l.drop (i + 1)) s' f).bind fun q => .ok (b :: q.1, q.2)) (fun a => Post (k (acc ++ a.1, a.2)) P R) R := q
    generalize compL (l.drop (i + 1)) s' f = m at q1 ⊢
    cases m with
    | ok a =>
      have q2 : Post (k (acc ++ (b :: a.1), a.2)) P R := q1.ok
      show Post (k (acc ++ [b] ++ a.1, a.2)) P R
      rw [List.append_assoc]
      exact q2
    | err e => exact ⟨q1.h0⟩
    | stuck => exact ⟨q1.h0⟩
  | none =>
    show Post ((compL (l.drop (i + 1)) s' f).bind fun q => k (acc ++ q.1, q.2)) P R
    have q1 : Post ((compL (l.drop (i + 1)) s' f).bind fun q => .ok (q.1, q.2)) (fun a => Post (k (acc ++ a.1, a.2)) P R) R := q
    generalize compL (l.drop (i + 1)) s' f = m at q1 ⊢
    cases m
    · exact q1.ok
    · exact ⟨q1.h0⟩
    · exact ⟨q1.h0⟩
theorem h_app1 [Enc α] {l : List α} {b : α} {y : V} {N : Hp → Prop} (w : Ex B H) (m : Mu K B H p (l.map enc)) (r : Rep K B y (enc b)) (hz : l.length < sizeLine) (h : ∀ H', Stp [p] B H B H' → Mu K B H' p ((l ++ [b]).map enc) → N H') :
    ∃ acc, H p = some (.lst acc) ∧ acc.length < sizeLine ∧ N (upd H p (.lst (acc ++ [y]))) := by
  obtain ⟨hb, xs, hp, hr⟩ := id m
  refine ⟨xs, hp, by rw [hr.length, List.length_map]; exact hz, ?_⟩
  have rl : RepL K B (xs ++ [y]) ((l ++ [b]).map enc) := by
    rw [List.map_append]
    exact hr.append (.cons r .nil)
  obtain ⟨s, m'⟩ := Stp.mut w m rl
  exact h _ s m'
def LcL (K : PySem.W.Frag) (v : V) (g : TG) (tt : TT) (te : TE) (vs : List Nat) (σ : L2.St) (H : Hp) (Q : VK) : Prop := tLc (iList K (tC v)) g tt te vs σ H Q
theorem h_lcE {vs : List Nat} {tl : TE} (h : tl σ H fun x H1 => LcL K x g tt te vs σ H1 Q) : tLc (iList K tl) g tt te vs σ H Q := h
def LcT (σ : L2.St) (vs : List Nat) (tt : TT) (te : TE) (Dl : Addr) (N : Hp → Prop) : L2.St → Hp → Prop := fun σ2 H2 => wipe σ2 vs = wipe σ vs ∧ tt σ2 H2 fun b H3 =>
  if b = true then te σ2 H3 fun y H4 => ∃ acc, H4 Dl = some (.lst acc) ∧ acc.length < sizeLine ∧ N (upd H4 Dl (.lst (acc ++ [y]))) else N H3
def App (Dl : Addr) (N : Hp → Prop) : VK := fun y H4 => ∃ acc, H4 Dl = some (.lst acc) ∧ acc.length < sizeLine ∧ N (upd H4 Dl (.lst (acc ++ [y])))
theorem h_lcT {vs : List Nat} {Dl : Addr} {N : Hp → Prop} {σ2 : L2.St} (e : wipe σ2 vs = wipe σ vs) (h : te σ2 H (App Dl N)) : LcT σ vs tYes te Dl N σ2 H := ⟨e, h⟩
theorem h_lcI {vs : List Nat} {Dl : Addr} {N : Hp → Prop} {σ2 : L2.St} (e : wipe σ2 vs = wipe σ vs) (h : tt σ2 H fun b H3 => if b = true then te σ2 H3 (App Dl N) else N H3) : LcT σ vs tt te Dl N σ2 H := ⟨e, h⟩
theorem h_app [Enc α] {l : List α} {b : α} {y : V} {N : Hp → Prop} (w : Ex B H) (m : Mu K B H p (l.map enc)) (r : Rep K B y (enc b)) (hz : l.length < sizeLine) (h : ∀ H', Stp [p] B H B H' → Mu K B H' p ((l ++ [b]).map enc) → N H') : App p N y H := h_app1 w m r hz h
theorem h_lcL [Enc α] {l : List α} {s0 : S} {f : α → S → Res (Option R' × S)} {k : List R' × S → Res β} {vs : List Nat} (hP : Post ((compR l s0 f).bind k) P R) (hs : SqL K H p xs) (hr : RepL K B xs (l.map enc))
    (J : Addr → List R' → S → Hp → Prop) (h0 : ∀ Dl, H Dl = none → J Dl [] s0 (upd H Dl (.lst []))) (hl : ∀ Dl acc s H', J Dl acc s H' → SqL K H' p xs)
    (hb : ∀ (Dl : Addr) (N : Hp → Prop) (T : Option R' × S → Prop) (x : α) v acc s H', J Dl acc s H' → Rep K B v (enc x) → acc.length < sizeLine → (∀ b s' H2, J Dl (acc ++ [b]) s' H2 → T (some b, s') → N H2) → (∀ s' H2, J Dl acc s' H2 → T (none, s') → N H2) → Post (f x s) T R →
      g v (wipe σ vs) H' (LcT σ vs tt te Dl N))
    (hd : ∀ Dl acc s H', J Dl acc s H' → Post (k (acc, s)) P R → Q (.ref Dl) H') : LcL K (.ref p) g tt te vs σ H Q := by
  refine ⟨p, rfl, ⟨xs, hs⟩, fun Dl hD => ?_⟩
  unfold compR at hP
  have hz : l.length ≤ 1000000 := by
    by_cases c : l.length ≤ 1000000
    · exact c
    · unfold guardR at hP; rw [if_neg c] at hP; exact hP.elim
  unfold guardR at hP
  rw [if_pos hz] at hP
  refine lc_list (K := K) (a := p) (xs := xs) (fun i H' => ∃ acc s, J Dl acc s H' ∧ acc.length ≤ i ∧ Post ((compL (l.drop i) s f).bind fun q => k (acc ++ q.1, q.2)) P R) ⟨[], s0, h0 Dl hD, Nat.le_refl _, hP⟩ (fun i H' _ ⟨acc, s, j, _⟩ => hl Dl acc s H' j) ?_ ?_
  · rintro i y H' hi ⟨acc, s, j, hn, q⟩
    have h1 := (List.getElem?_eq_some_iff.mp hi).1
    rw [hr.length, List.length_map] at h1
    obtain ⟨x, hx⟩ : ∃ x, l[i]? = some x := ⟨l[i], List.getElem?_eq_getElem h1⟩
    obtain ⟨u, hu, ru⟩ := hr.get (i := i) (d := enc x) (by rw [List.getElem?_map, hx]; rfl)
    rw [hi] at hu; cases hu
    exact hb Dl _ _ x y acc s H' j ru (Nat.lt_of_le_of_lt (Nat.le_trans hn (Nat.le_trans (Nat.le_of_lt h1) hz)) (by decide)) (fun b s' H2 j2 t2 => ⟨acc ++ [b], s', j2, by rw [List.length_append]; exact Nat.succ_le_succ hn, t2⟩) (fun s' H2 j2 t2 => ⟨acc, s', j2, Nat.le_succ_of_le hn, t2⟩) (q.compS hx)
  · rintro H' ⟨acc, s, j, _, q⟩
    rw [hr.length, List.length_map, List.drop_eq_nil_of_le (Nat.le_refl _)] at q
    have q2 : Post (k (acc ++ [], s)) P R := q
    rw [List.append_nil] at q2
    exact hd Dl acc s H' j q2
def LcR1 (ws : List V) (g : TG) (tt : TT) (te : TE) (vs : List Nat) (σ : L2.St) (H : Hp) (Q : VK) : Prop := tLc (iRng1 (fun _ H Q => Q ws H)) g tt te vs σ H Q
theorem h_lcR1E {vs : List Nat} {ta : TA} (h : ta σ H fun ws H1 => LcR1 ws g tt te vs σ H1 Q) : tLc (iRng1 ta) g tt te vs σ H Q := h
theorem h_lcR1 {hi : Int} {s0 : S} {f : Int → S → Res (Option R' × S)} {k : List R' × S → Res β} {vs : List Nat} (hP : Post ((compR (rngI 0 hi) s0 f).bind k) P R)
    (J : Addr → List R' → S → Hp → Prop) (h0 : ∀ Dl, H Dl = none → J Dl [] s0 (upd H Dl (.lst [])))
    (hb : ∀ (Dl : Addr) (N : Hp → Prop) (T : Option R' × S → Prop) (x : Int) acc s H', J Dl acc s H' → 0 ≤ x → x < hi → acc.length < sizeLine → (∀ b s' H2, J Dl (acc ++ [b]) s' H2 → T (some b, s') → N H2) → (∀ s' H2, J Dl acc s' H2 → T (none, s') → N H2) → Post (f x s) T R →
      g (.int x) (wipe σ vs) H' (LcT σ vs tt te Dl N))
    (hd : ∀ Dl acc s H', J Dl acc s H' → Post (k (acc, s)) P R → Q (.ref Dl) H') (hlo : -(2 ^ 62) ≤ hi) : LcR1 [.int hi] g tt te vs σ H Q := by
  unfold compR at hP
  have hz : (rngI 0 hi).length ≤ 1000000 := by
    by_cases c : (rngI 0 hi).length ≤ 1000000
    · exact c
    · unfold guardR at hP; rw [if_neg c] at hP; exact hP.elim
  unfold guardR at hP
  rw [if_pos hz] at hP
  rw [rngI_len, Int.sub_zero] at hz
  refine ⟨hi, rfl, hlo, by omega, fun Dl hD => ?_⟩
  refine lc_range (lo := 0) (n := hi.toNat) (fun i H' => ∃ acc s, J Dl acc s H' ∧ acc.length ≤ i ∧ Post ((compL ((rngI 0 hi).drop i) s f).bind fun q => k (acc ++ q.1, q.2)) P R) ⟨[], s0, h0 Dl hD, Nat.le_refl _, hP⟩ ?_ ?_
  · rintro i H' hi' ⟨acc, s, j, hn, q⟩
    have hx := rngI_get (lo := 0) (hi := hi) (i := i) (by omega)
    have e : (0 : Int) + (i : Int) = (i : Int) := Int.zero_add _
    exact hb Dl _ _ (0 + (i : Int)) acc s H' j (by omega) (by omega) (Nat.lt_of_le_of_lt (Nat.le_trans hn (Nat.le_trans (Nat.le_of_lt hi') hz)) (by decide)) (fun b s' H2 j2 t2 => ⟨acc ++ [b], s', j2, by rw [List.length_append]; exact Nat.succ_le_succ hn, t2⟩) (fun s' H2 j2 t2 => ⟨acc, s', j2, Nat.le_succ_of_le hn, t2⟩) (q.compS hx)
  · rintro H' ⟨acc, s, j, _, q⟩
    rw [List.drop_eq_nil_of_le (by rw [rngI_len]; omega)] at q
    have q2 : Post (k (acc ++ [], s)) P R := q
    rw [List.append_nil] at q2
    exact hd Dl acc s H' j q2
end

section
variable {K : PySem.W.Frag} {B B' H H' B0 H0 : Hp} {W : List Addr} {p : Addr} {xs : List V} {ds : List D} {v : V} {a b c d : L2.St → Hp → Prop} {rt : VK} {σ : L2.St}
theorem Rep.sqB (r : Rep K B v (.lst ds)) : ∃ p xs, v = .ref p ∧ SqL K B p xs ∧ RepL K B xs ds := by
  cases r with
  | @lst p xs _ hp r => exact ⟨p, xs, rfl, hp, r⟩
theorem Bor.sq0 (m : Bor K B0 H0 W v ds) : ∃ p xs, v = .ref p ∧ RepL K B0 xs ds ∧ ∀ B' H', Stp W B0 H0 B' H' → SqL K H' p xs := by
  obtain ⟨p, xs, e, hp, r⟩ := m
  refine ⟨p, xs, e, r, fun B' H' s => ?_⟩
  rcases hp with ⟨hp | ⟨o, hp⟩, hw⟩ | hp
  · exact .inl (.inl (s.fr p _ hw hp))
  · exact .inl (.inr ⟨o, s.fr p _ hw hp⟩)
  · exact .inr hp
theorem h_ct (h : d σ H) : tCont (Ends.mk a rt b d) σ H := h
theorem h_bk (h : b σ H) : tBreak (Ends.mk a rt b d) σ H := h
end

/-! ### lists that change -/
def setR {α : Type} (l : List α) (i : Int) (x : α) : Res (List α) := match ixN l.length i with | some j => .ok (l.set j x) | none => .stuck
def Bm (K : PySem.W.Frag) (T : String) (r : V → List V → Hp → VK → Prop) (t : TA) (σ : L2.St) (x : V) (H : Hp) (Q : VK) : Prop := tyV K T x H ∧ t σ H fun xs H2 => r x xs H2 Q
def Bm0 (K : PySem.W.Frag) (T : String) (r : V → List V → Hp → VK → Prop) (σ : L2.St) (x : V) (H : Hp) (Q : VK) : Prop := tyV K T x H ∧ r x [] H Q
section
variable {K : PySem.W.Frag} {σ : L2.St} {B H : Hp} {Q : VK} {p q : Addr} {v y : V} {te to ti : TE} {t : TA} {D' : Ends} {z : TS} {i : Int} {r : V → List V → Hp → VK → Prop}
theorem h_bm {T : String} (h : to σ H fun x H1 => Bm K T r t σ x H1 Q) : tBM K T r to t σ H Q := h
theorem h_bm0 {T : String} (h : to σ H fun x H1 => Bm0 K T r σ x H1 Q) : tBM0 K T r to σ H Q := h
theorem Mu.tyV {ds : List D} (m : Mu K B H p ds) : tyV K "list" (.ref p) H := by
  obtain ⟨hb, xs, hp, _⟩ := m
  exact .inl ⟨rfl, _, .inl (.inl hp)⟩
theorem h_bmL {ds : List D} (m : Mu K B H p ds) (h : t σ H fun xs H2 => r (.ref p) xs H2 Q) : Bm K "list" r t σ (.ref p) H Q := ⟨m.tyV, h⟩
theorem h_bmL0 {ds : List D} (m : Mu K B H p ds) (h : r (.ref p) [] H Q) : Bm0 K "list" r σ (.ref p) H Q := ⟨m.tyV, h⟩
theorem h_append {α : Type} [Enc α] {l : List α} {b : α} (w : Ex B H) (m : Mu K B H p (l.map enc)) (ry : Rep K B y (enc b)) (hz : l.length < 1000000) (h : ∀ H', Stp [p] B H B H' → Mu K B H' p ((l ++ [b]).map enc) → Q .non H') : rAppend (.ref p) [y] H Q := by
  obtain ⟨hb, xs, hp, hr⟩ := id m
  refine ⟨p, xs, y, rfl, rfl, hp, by rw [hr.length, List.length_map]; exact Nat.lt_of_lt_of_le hz (by decide), ?_⟩
  have rl : RepL K B (xs ++ [y]) ((l ++ [b]).map enc) := by
    rw [List.map_append]
    exact hr.append (.cons ry .nil)
  obtain ⟨s, m'⟩ := Stp.mut w m rl
  exact h _ s m'
theorem h_extend {α : Type} [Enc α] {l l2 : List α} (w : Ex B H) (m : Mu K B H p (l.map enc)) (m2 : Mu K B H q (l2.map enc)) (hz : l.length + l2.length ≤ 1000000) (h : ∀ H', Stp [p] B H B H' → Mu K B H' p ((l ++ l2).map enc) → Q .non H') : rExtend (.ref p) [.ref q] H Q := by
  obtain ⟨hb, xs, hp, hr⟩ := id m
  obtain ⟨hb2, ys, hp2, hr2⟩ := id m2
  refine ⟨p, q, xs, ys, rfl, rfl, hp, hp2, by rw [hr.length, hr2.length, List.length_map, List.length_map]; exact Nat.le_trans hz (by decide), ?_⟩
  have rl : RepL K B (xs ++ ys) ((l ++ l2).map enc) := by
    rw [List.map_append]
    exact hr.append hr2
  obtain ⟨s, m'⟩ := Stp.mut w m rl
  exact h _ s m'
theorem RepL.set : ∀ {vs : List V} {ds : List D} {j : Nat} {d : D}, RepL K B vs ds → Rep K B v d → RepL K B (vs.set j v) (ds.set j d)
  | _, _, _, _, .nil, _ => .nil
  | _, _, 0, _, .cons _ t, r => .cons r t
  | _, _, j + 1, _, .cons h t, r => .cons h (RepL.set t r)
theorem Post.set {α β : Type} {l : List α} {x : α} {k : List α → Res β} {P : β → Prop} {R : Err → Prop} (h : Post ((setR l i x).bind k) P R) : ∃ j, ixN l.length i = some j ∧ Post (k (l.set j x)) P R := by
  unfold setR at h
  cases e : ixN l.length i with
  | none => rw [e] at h; exact h.elim
  | some j => rw [e] at h; exact ⟨j, rfl, h⟩
def SubS (K : PySem.W.Frag) (to ti : TE) (σ : L2.St) (v : V) (H : Hp) (N : L2.St → Hp → Prop) : Prop := gSub to ti rSetL v σ H N
theorem h_sub {N : L2.St → Hp → Prop} (h : to σ H fun o H1 => ti σ H1 fun i H2 => rSetL o i v H2 fun H3 => N σ H3) : gSub to ti rSetL v σ H N := h
theorem h_asg {g : TG} (h : te σ H fun x H1 => g x σ H1 D'.nx) : tAsg te g D' σ H := h
theorem h_setL {α : Type} [Enc α] {l : List α} {b : α} {N : Hp → Prop} {j : Nat} (w : Ex B H) (m : Mu K B H p (l.map enc)) (ry : Rep K B v (enc b)) (hj : ixN l.length i = some j) (h : ∀ H', Stp [p] B H B H' → Mu K B H' p ((l.set j b).map enc) → N H') : rSetL (.ref p) (.int i) v H N := by
  obtain ⟨hb, xs, hp, hr⟩ := id m
  refine ⟨p, xs, i, j, rfl, rfl, hp, by rw [hr.length, List.length_map]; exact hj, ?_⟩
  have rl : RepL K B (xs.set j v) ((l.set j b).map enc) := by
    rw [List.map_set]
    exact hr.set ry
  obtain ⟨s, m'⟩ := Stp.mut w m rl
  exact h _ s m'
end

/-- a value with a name -/
def lt {α β : Type} (d : α) (k : α → Res β) : Res β := k d
theorem Post.lt {α β : Type} {d : α} {k : α → Res β} {P : β → Prop} {R : Err → Prop} (h : Post (Y.lt d k) P R) : Post (k d) P R := h

/-! ### lists put together, cut, compared; keywords alone -/
def rCatQ (K : PySem.W.Frag) : R2 := fun x y H Q => ∃ a b xs ys, x = .ref a ∧ y = .ref b ∧ SqL K H a xs ∧ SqL K H b ys ∧ xs.length + ys.length ≤ sizeLine ∧ NwL (xs ++ ys) H Q
theorem op_catQ {X : Cx} : OpR X (binaryOp .Add) (rCatQ X.K) := by
  intro pins s σ H x y v u Q I rx ry h
  obtain ⟨a, b, xs, ys, rfl, rfl, ha, hb, hz, q⟩ := h
  cases rx
  cases ry
  obtain ⟨its, r, p1, z1⟩ := I.list ha
  obtain ⟨its2, r2, p2, z2⟩ := I.list hb
  have hl1 := r.length
  have hl2 := r2.length
  obtain ⟨⟨cls, dd, data, sl⟩, ho, hc, n, hd⟩ := p1.isList
  obtain ⟨⟨cls2, dd2, data2, sl2⟩, ho2, hc2, n2, hd2⟩ := p2.isList
  simp only at hc hd hc2 hd2
  subst hc hd hc2 hd2
  have e : its.toArray ++ its2.toArray = (its ++ its2).toArray := by simp
  refine concat_meets ⟨_, ho, rfl⟩ ⟨_, ho2, rfl⟩ noFill_list_add seq_list_add PySem.F.slot_list_add PySem.F.entry_list_add (PySem.F.args_list_add_2 _ _) (list_addW a b its.toArray its2.toArray n n2 dd dd2 sl sl2 (by rw [List.size_toArray, List.size_toArray]; omega)) ⟨ho, ho2, ?_⟩
  rw [e]
  exact ⟨.ref _, _, I.lnew (t' := s.toks) (r.append r2) (by rw [List.length_append]; omega), rfl, q _ I.fresh⟩
def rSlQ (K : PySem.W.Frag) : V → Option Int → Option Int → Hp → VK → Prop := fun x lo hi H Q => ∃ a xs, x = .ref a ∧ SqL K H a xs ∧ NwL (cutV xs lo hi) H Q
theorem sl_Q {X : Cx} : SlR X (rSlQ X.K) := sl_list
/-- l[lo:hi] -/
def cutL {α : Type} (l : List α) (lo hi : Option Int) : List α := (l.drop (HT.sIx l.length 0 lo)).take (HT.sIx l.length l.length hi - HT.sIx l.length 0 lo)
mutual
/-- as the library's data -/
def pyD : D → PyData
  | .non => .none | .bl b => .bool b | .int i => .int i | .str x => .str x | .lst ds => .list (pyDs ds) | .tup ds => .tuple (pyDs ds) | .dic _ => .dict []
def pyDs : List D → List PyData
  | [] => []
  | d :: ds => pyD d :: pyDs ds
end
mutual
/-- no dict within -/
def flatD : D → Bool
  | .lst ds => flatDs ds | .tup ds => flatDs ds | .dic _ => false | _ => true
def flatDs : List D → Bool
  | [] => true
  | d :: ds => flatD d && flatDs ds
end
/-- == of data -/
def eqD (a b : D) : Bool := PyData.eqv (pyD a) (pyD b)
section
variable {K : PySem.W.Frag} {B B' H H' : Hp}
mutual
theorem Rep.dp (w : Ex B H) : ∀ {v : V} {d : D}, Rep K B v d → flatD d = true → Dp K H v (pyD d)
  | _, _, .non, _ => .non
  | _, _, .bl b, _ => .bl b
  | _, _, .int i, _ => .int i
  | _, _, .str x, _ => .str x
  | _, _, .lst h r, f => .lst (w.l h) (RepL.dp w r f)
  | _, _, .tup h r, f => .tup (w.t h) (RepL.dp w r f)
  | _, _, .dic h r, f => nomatch f
theorem RepL.dp (w : Ex B H) : ∀ {vs : List V} {ds : List D}, RepL K B vs ds → flatDs ds = true → DpAll K H vs (pyDs ds)
  | _, _, .nil, _ => .nil
  | _, _, .cons h t, f => by
    have f' : (flatD _ && flatDs _) = true := f
    rw [Bool.and_eq_true] at f'
    exact .cons (Rep.dp w h f'.1) (RepL.dp w t f'.2)
end
variable {σ : L2.St} {Q : VK} {x y v : V} {d e : D} {p q : Addr} {xs ys : List V} {i j k : Int} {tc te ta tb : TE} {lo hi : Option Int} {to tu : TO}
/-- what may be compared by == here -/
def okEq (d e : D) : Prop := flatD d = true ∧ flatD e = true ∧ SeqAt.shaped (pyD d) = true ∧ SeqAt.shaped (pyD e) = true
instance (d e : D) : Decidable (okEq d e) := by unfold okEq; infer_instance
theorem h_eqD (w : Ex B H) (rx : Rep K B x d) (ry : Rep K B y e) (o : okEq d e) (h : Q (.bl (eqD d e)) H) : rEqD K x y H Q := ⟨_, _, rx.dp w o.1, ry.dp w o.2.1, o.2.2.1, o.2.2.2, h⟩
theorem h_neD (w : Ex B H) (rx : Rep K B x d) (ry : Rep K B y e) (o : okEq d e) (h : Q (.bl (!eqD d e)) H) : rNeD K x y H Q := ⟨_, _, rx.dp w o.1, ry.dp w o.2.1, o.2.2.1, o.2.2.2, h⟩
theorem h_cat (s1 : SqL K H p xs) (s2 : SqL K H q ys) (hz : xs.length + ys.length ≤ sizeLine) (h : NwL (xs ++ ys) H Q) : rCatQ K (.ref p) (.ref q) H Q := ⟨p, q, xs, ys, rfl, rfl, s1, s2, hz, h⟩
theorem RepL.cat {α : Type} [Enc α] {l l2 : List α} (r : RepL K B xs (l.map enc)) (r2 : RepL K B ys (l2.map enc)) : RepL K B (xs ++ ys) ((l ++ l2).map enc) := by
  rw [List.map_append]; exact r.append r2
theorem RepL.take : ∀ {vs : List V} {ds : List D} (n : Nat), RepL K B vs ds → RepL K B (vs.take n) (ds.take n)
  | _, _, 0, _ => .nil
  | _, _, _ + 1, .nil => .nil
  | _, _, n + 1, .cons r t => .cons r (RepL.take n t)
theorem RepL.drop : ∀ {vs : List V} {ds : List D} (n : Nat), RepL K B vs ds → RepL K B (vs.drop n) (ds.drop n)
  | _, _, 0, r => r
  | _, _, _ + 1, .nil => .nil
  | _, _, n + 1, .cons _ t => RepL.drop n t
theorem RepL.cut {α : Type} [Enc α] {l : List α} (r : RepL K B xs (l.map enc)) (lo hi : Option Int) : RepL K B (cutV xs lo hi) ((cutL l lo hi).map enc) := by
  unfold cutV cutL
  rw [List.map_take, List.map_drop, r.length, List.length_map]
  exact (r.drop _).take _
theorem h_sl {r : V → Option Int → Option Int → Hp → VK → Prop} (h : te σ H fun x H1 => to σ H1 fun l H2 => tu σ H2 fun u H3 => r x l u H3 Q) : tSl r te to tu σ H Q := h
theorem h_part {N : Option Int → Hp → Prop} (h : te σ H fun x H1 => ∃ i, x = .int i ∧ N (some i) H1) : tPart te σ H N := h
theorem h_isI {f : Int → Prop} (h : f i) : ∃ j, V.int i = .int j ∧ f j := ⟨i, rfl, h⟩
theorem h_nopart {N : Option Int → Hp → Prop} (h : N none H) : tNoPart σ H N := h
theorem h_slQ (s : SqL K H p xs) (h : NwL (cutV xs lo hi) H Q) : rSlQ K (.ref p) lo hi H Q := ⟨p, xs, rfl, s, h⟩
theorem h_ch {g g' : Int → Int → Bool} (hc : ∀ Q : VK, Q (.int k) H → tc σ H Q) (h : Q (.bl (g i j && g' j k)) H) :
    rI0 (fun i j => .bl (g i j)) (.int i) (.int j) H (fun z H3 => ∃ c, z = .bl c ∧ (if c = true then tc σ H3 fun w' H4 => rI0 (fun i j => .bl (g' i j)) (.int j) w' H4 Q else Q (.bl false) H3)) := by
  refine ⟨i, j, rfl, rfl, g i j, rfl, ?_⟩
  cases e : g i j with
  | true =>
    refine h_iteT (hc _ ?_)
    rw [e, Bool.true_and] at h
    exact ⟨j, k, rfl, rfl, h⟩
  | false =>
    rw [e, Bool.false_and] at h
    exact h_iteF h
end
/-- f(k = v, ..) -/
def tCallK0 (sp : Sp) (gV : List V → List V) (E : XK) (tk : TA) : TE := fun σ H Q => tk σ H fun zs H2 => sp (gV zs) H2 Q E
theorem pe_callK0 {X : Cx} {CX : CXT} {k : Nat} {f : Addr} {fd : FuncData} {ps ks : List Str} {sp : Sp} {E : XK} {x : Str} {p pos : Pos} {kws : List Keyword} {tk : TA} {g : List Value → List Value → List Value} {gV : List V → List V → List V}
    (F : FnOk X.prog X.w X.K X.mg X.base CX k f fd ps sp) (hr : Room k X.A) (hg : Gl X x) (hm : X.mg x = some (.ref f)) (hk : PySem.W.keepIn X.K (.ref f) = true) (hb : KBinds X.K fd ps ks g gV) (hx : Passes CX X E)
    (hkw : PK X kws tk) (hall : (backToKw pos (keywordEach kws X.env)).all (·.1.isSome) = true := by rfl) (hks : (backToKw pos (keywordEach kws X.env)).filterMap (·.1) = ks := by rfl)
    (hdb : (x == ("__debug__" : Str)) = false := by decide)
    (hpl : ((backTo pos (starEach [] X.env)).any (·.1) || (backToKw pos (keywordEach kws X.env)).any (·.1.isNone)) = false := by rfl) :
    PE X (.Call (.Name x p) [] kws pos) (tCallK0 sp (gV []) E tk) := by
  refine ⟨fun pins s σ H Q I h => ?_⟩
  refine wpAny_Call_Name_kw (ld_glob I hg hm ?_ hdb)
  refine PySem.W.callWith_KW0 (h₀ := X.base) I.ok.mod.kin hk hall ?_ hpl
  refine thn (hkw.run pos pins s σ H _ I h) fun ws s2 ⟨zs, H2, I2, rz, q2⟩ => ⟨I2.kIn, ?_⟩
  rw [hks]
  exact run_fnk F hr hb hx I2 .nil rz q2
theorem h_callK0 {σ : L2.St} {H : Hp} {Q : VK} {sp : Sp} {gV : List V → List V} {E : XK} {tk : TA} (h : tk σ H fun zs H2 => sp (gV zs) H2 Q E) : tCallK0 sp gV E tk σ H Q := h
theorem h_callK {σ : L2.St} {H : Hp} {Q : VK} {sp : Sp} {gV : List V → List V → List V} {E : XK} {t tk : TA} (h : t σ H fun vs H1 => tk σ H1 fun zs H2 => sp (gV vs zs) H2 Q E) : tCallK sp gV E t tk σ H Q := h
theorem hu64_of {A : Around} {k : Nat} (hr : Room k A) : A.units + 64 < cLine := Nat.lt_of_le_of_lt (Nat.add_le_add_left (by decide : 64 ≤ 64) _) hr.units

/-! ### dicts as data -/
section
variable {K : PySem.W.Frag} {B H : Hp} {σ : L2.St} {Q : VK} {tk tv : TE} {v : V} {d : D} {i : Int} {p : Addr} {xs : List V}
theorem h_disp1I (hk : ∀ (H' : Hp) (Q : VK), Q (.int i) H' → tk σ H' Q) (hv : ∀ (H' : Hp) (Q : VK), Q v H' → tv σ H' Q) (w : Ex B H) (rv : Rep K B v d)
    (h : ∀ p B' H', Stp [] B H B' H' → Rep K B' (.ref p) (.dic [(.inl i, d)]) → Q (.ref p) H') : tDisp [(tk, tv)] σ H Q := fun p hp => by
  show tk σ (upd H p (.dK [])) _
  refine hk _ _ (hv _ _ ⟨upd_same, [(.inl i, v)], rfl, (by show 1 ≤ 15; decide), ?_⟩)
  rw [upd_upd]
  have hb := w.none hp
  exact h p _ _ (Stp.new w hp) (.dic upd_same (.cons (rv.mono (Ex.new hb)) .nil))
theorem h_dnew (w : Ex B H) (h : ∀ p B' H', Stp [] B H B' H' → Rep K B' (.ref p) (.dic []) → Q (.ref p) H') : tDNewK σ H Q := fun p hp => h p _ _ (Stp.new w hp) (.dic upd_same .nil)
def rDictP (K : PySem.W.Frag) : List V → Hp → VK → Prop := fun xs H Q => ∃ (a : Addr) (ps : List Addr) (kvs : List (Key × V)), xs = [.ref a] ∧ SqL K H a (ps.map V.ref) ∧ Paired (fun p kv => SqT K H p [kV kv.1, kv.2]) ps kvs ∧
    ∀ p, H p = none → Q (.ref p) (upd H p (.dK (mergeK [] kvs)))
theorem cr_dict {X : Cx} (hc : X.calm = true) : CallR X (.type "dict") (rDictP X.K) := call_dictP hc
def vD : V → D
  | .int i => .int i | .bl b => .bl b | .str x => .str x | _ => .non
/-- dict(pairs of ints), as data -/
def dictI (l : List (Tp2 Int Int)) : List (Key × D) := (mergeK [] (l.map fun t => ((Sum.inl t.a : Key), V.int t.b))).map fun kv => (kv.1, vD kv.2)
theorem putK_ints {kvs : List (Key × V)} {k : Key} {j : Int} (h : ∀ kv ∈ kvs, ∃ i, kv.2 = V.int i) : ∀ kv ∈ putK kvs k (V.int j), ∃ i, kv.2 = V.int i := by
  intro kv m
  unfold putK at m
  split at m
  · obtain ⟨q, hq, e⟩ := List.mem_map.mp m
    rw [← e]
    split
    · exact ⟨j, rfl⟩
    · exact h q hq
  · rcases List.mem_append.mp m with m | m
    · exact h kv m
    · rw [List.mem_singleton.mp m]; exact ⟨j, rfl⟩
theorem merge_ints : ∀ {l : List (Tp2 Int Int)} {acc : List (Key × V)}, (∀ kv ∈ acc, ∃ i, kv.2 = V.int i) → ∀ kv ∈ mergeK acc (l.map fun t => ((Sum.inl t.a : Key), V.int t.b)), ∃ i, kv.2 = V.int i
  | [], _, h => h
  | t :: r, acc, h => merge_ints (l := r) (putK_ints h)
theorem RepK.ints : ∀ {kvs : List (Key × V)}, (∀ kv ∈ kvs, ∃ i, kv.2 = V.int i) → RepK K B kvs (kvs.map fun kv => (kv.1, vD kv.2))
  | [], _ => .nil
  | (k, v) :: r, h => by
    obtain ⟨i, e⟩ := h (k, v) List.mem_cons_self
    have e' : v = V.int i := e
    subst e'
    exact .cons (.int i) (RepK.ints fun kv m => h kv (List.mem_cons_of_mem _ m))
theorem pairs_D (w : Ex B H) : ∀ {xs : List V} {l : List (Tp2 Int Int)}, RepL K B xs (l.map enc) → ∃ ps : List Addr, xs = ps.map V.ref ∧ Paired (fun p (kv : Key × V) => SqT K H p [kV kv.1, kv.2]) ps (l.map fun t => ((Sum.inl t.a : Key), V.int t.b))
  | [], [], _ => ⟨[], rfl, .nil⟩
  | _ :: _, [], r => nomatch r
  | [], _ :: _, r => nomatch r
  | v :: vs, t :: l, r => by
    cases r with
    | cons h q =>
      obtain ⟨ps, e, pr⟩ := pairs_D w q
      obtain ⟨p, ys, rfl, hs, hr⟩ := Rep.st w (show Rep K B v (.tup [enc t.a, enc t.b]) from h)
      cases hr with
      | cons h1 t1 =>
        cases t1 with
        | cons h2 t2 =>
          cases t2
          cases h1
          cases h2
          exact ⟨p :: ps, by rw [e]; rfl, .cons hs pr⟩
theorem h_dictP {l : List (Tp2 Int Int)} (w : Ex B H) (s : SqL K H p xs) (r : RepL K B xs (l.map enc)) (h : ∀ p B' H', Stp [] B H B' H' → Rep K B' (.ref p) (.dic (dictI l)) → Q (.ref p) H') : rDictP K [.ref p] H Q := by
  obtain ⟨ps, e, pr⟩ := pairs_D w r
  subst e
  exact ⟨p, ps, _, rfl, s, pr, fun q hq => h q _ _ (Stp.new w hq) (.dic upd_same (RepK.ints (merge_ints fun _ m => nomatch m)))⟩
end
theorem RepL.toD {K : PySem.W.Frag} {B : Hp} {α : Type} [Enc α] {xs : List V} {l : List α} (r : RepL K B xs (l.map enc)) : RepL K B xs ((l.map enc : List D).map enc) := by
  have e : (l.map enc : List D).map enc = l.map enc := List.map_id' _
  rw [e]; exact r
/-- a thing that is an int -/
def asI (d : D) : Res Int := match d with | .int i => .ok i | _ => .stuck
theorem Post.asI {β : Type} {d : D} {k : Int → Res β} {P : β → Prop} {R : Err → Prop} (h : Post ((Y.asI d).bind k) P R) : ∃ i, d = .int i ∧ Post (k i) P R := by
  cases d with
  | int i => exact ⟨i, rfl, h⟩
  | _ => exact h.elim
/-- a pair taken apart -/
def un2 {α β γ : Type} (k : α → β → γ) (p : α × β) : γ := k p.1 p.2
theorem Post.un2 {α β γ : Type} {k : α → β → Res γ} {a : α} {b : β} {P : γ → Prop} {R : Err → Prop} (h : Post (Y.un2 k (a, b)) P R) : Post (k a b) P R := h
/-- a thing that is a list | a tuple -/
def asL (d : D) : Res (List D) := match d with | .lst l => .ok l | _ => .stuck
def asT (d : D) : Res (List D) := match d with | .tup l => .ok l | _ => .stuck
theorem enc_Ds (l : List D) : (l.map enc : List D) = l := List.map_id' _
theorem Post.asL {β : Type} {d : D} {k : List D → Res β} {P : β → Prop} {R : Err → Prop} (h : Post ((Y.asL d).bind k) P R) : ∃ l : List D, d = .lst (l.map enc) ∧ Post (k l) P R := by
  cases d with
  | lst l => exact ⟨l, by rw [enc_Ds], h⟩
  | _ => exact h.elim
theorem Post.asT {β : Type} {d : D} {k : List D → Res β} {P : β → Prop} {R : Err → Prop} (h : Post ((Y.asT d).bind k) P R) : ∃ l : List D, d = .tup (l.map enc) ∧ Post (k l) P R := by
  cases d with
  | tup l => exact ⟨l, by rw [enc_Ds], h⟩
  | _ => exact h.elim
section
variable {K : PySem.W.Frag} {B H : Hp} {Q : VK} {p : Addr} {xs : List V}
theorem RepL.bools : ∀ {xs : List V} {bs : List Bool}, RepL K B xs (bs.map enc) → xs = bs.map V.bl
  | [], [], _ => rfl
  | _ :: _, [], r => nomatch r
  | [], _ :: _, r => nomatch r
  | v :: vs, b :: bs, r => by
    cases r with
    | cons h t =>
      cases h
      rw [RepL.bools t]
      rfl
theorem RepL.intsV : ∀ {xs : List V} {bs : List Int}, RepL K B xs (bs.map enc) → xs = bs.map V.int
  | [], [], _ => rfl
  | _ :: _, [], r => nomatch r
  | [], _ :: _, r => nomatch r
  | v :: vs, b :: bs, r => by
    cases r with
    | cons h t =>
      cases h
      rw [RepL.intsV t]
      rfl
theorem h_all {bs : List Bool} (s : SqL K H p xs) (r : RepL K B xs (bs.map enc)) (h : Q (.bl (bs.all id)) H) : rAll K [.ref p] H Q := ⟨p, bs, rfl, by rw [← r.bools]; exact s, h⟩
theorem h_any {bs : List Bool} (s : SqL K H p xs) (r : RepL K B xs (bs.map enc)) (h : Q (.bl (bs.any id)) H) : rAny K [.ref p] H Q := ⟨p, bs, rfl, by rw [← r.bools]; exact s, h⟩
theorem h_sum {ns : List Int} (s : SqL K H p xs) (r : RepL K B xs (ns.map enc)) (h : Q (.int ns.sum) H) : rSum K [.ref p] H Q := ⟨p, ns, rfl, by rw [← r.intsV]; exact s, h⟩
end
/-! ### the top -/
/-- the law's promise -/
def spTop (K : PySem.W.Frag) : Sp := fun vs H Q _ => ∃ (a : Addr) (ns : List Int), vs = [.ref a] ∧ ns.length ≤ 63 ∧ SqL K H a (ns.map V.int) ∧ ∀ H', Q (.bl true) H'
theorem top_of {K : PySem.W.Frag} {m : List Int → Res Bool} (hm : ∀ ns : List Int, ns.length ≤ 63 → m ns = .ok true) {vs : List V} {H : Hp} {Q : VK} {E : XK} (h : spTop K vs H Q E) :
    ∃ (B : Hp) (v : V) (a : List Int), Ex B H ∧ vs = [v] ∧ Bor K B H [] v (a.map enc) ∧ Post (m a) (fun r => Ret K [] B H (enc r) Q) (fun _ => False) := by
  obtain ⟨a, ns, e, hl, hs, k⟩ := h
  refine ⟨H, .ref a, ns, Ex.refl H, e, ⟨a, _, rfl, ?_, RepL.ints ns⟩, ?_⟩
  · rcases hs with hs | hs
    · exact .inl ⟨hs, fun z => nomatch z⟩
    · exact .inr hs
  · rw [hm ns hl]
    refine ⟨fun v B' H' st r => ?_⟩
    cases r
    exact k H'
theorem walk_top {l : PySem.W.OpenLaw} {q : Program} {loose : List Str} {XP : (Str → Option Value) → Heap → Prop} {YP : World → Heap → Prop} {d : DefRec} {K : Params → PySem.W.Frag} {x : Str} {k : Nat} (hn : l.most = some 63) (hdf : d.params.defaults = [])
    (hr : Room k callerA) (hY : ∀ (w : World) (h : Heap), YP w h → (K w.params).In h)
    (F : ∀ (w : World) (mg : Str → Option Value) (fa : Addr) (h : Heap), (K w.params).In h → h.Ns mainGlobals mg → mg d.name = some (.ref fa) →
      ∃ fd : FuncData, (∀ (s : Shared) (u : Value), BindsTo s fd ⟨[u], []⟩ [(x, u)]) ∧ ∀ base : Heap, (K w.params).In base → base.Ns mainGlobals mg → FnOk l.prog w (K w.params) mg base CX0 k fa fd [x] (spTop (K w.params))) :
    PySem.W.WalkO q loose XP YP l.row.toRowW d [] (fun f vs => PySem.call f vs) :=
  L2.walk_of (n := 63) (k := k) (x := x) (CX := fun _ => CX0) (sp := fun w => spTop (K w.params)) hn (by decide) hdf hr hY F (fun _ _ a ns hl _ hS => ⟨a, ns, rfl, hl, hS, fun _ => rfl⟩) fun _ _ _ _ _ z => z
/-- how its arguments bind by keywords -/
theorem _root_.L2.Fun.kb {K : PySem.W.Frag} {x qual : Str} {st : Stmt} {f : Addr} {fd : FuncData} {ps ks : List Str} {g : List Value → List Value → List Value} {gV : List V → List V → List V} (F : Fun K x qual st f fd)
    (h : ∀ (kV doc pm : Value) (an : Option Addr) (cdv ct : Value) (us ws : List Value), (g us ws).length = ps.length → bindArgs (PySem.W.fnOf x qual (defArgs st) (defBody st) (defScope st) .none kV doc pm an cdv ct) ⟨us, ks.zip ws⟩ = pure (ps.zip (g us ws)))
    (r : ∀ {vs : List V} {us : List Value} {zs : List V} {ws : List Value}, Vals vs us → Vals zs ws → Vals (gV vs zs) (g us ws)) : KBinds K fd ps ks g gV := by
  obtain ⟨oc, od, kV, doc, pm, an, cdv, ct, osl, rfl, lk, hcd⟩ := F.ex
  exact ⟨fun s us ws _ hl => .of_eq (h kV doc pm an cdv ct us ws hl), r⟩
end Y

set_option Elab.async false
set_option linter.all false
set_option maxRecDepth 100000
set_option maxHeartbeats 4000000
namespace A
open PySem PySem.Spec PyProof.Rows L2 Y
open Y.Enc (enc)
abbrev top (i : Nat) : Stmt := PySem.Challenge.pw_lanescroll_k03_what_is_none.main.body.getD i (.Pass ⟨0, 0, 0, 0⟩)
def isWhole (d : D) (lo hi : Int) : Bool := match d with
  | .int i => decide (lo ≤ i) && decide (i ≤ hi)
  | _ => false
def m_is_whole (d : D) (lo hi : Int) : Res Bool := .ok (isWhole d lo hi)
/-! ### is_whole -/
def sp_is_whole (K : PySem.W.Frag) : Sp := fun vs H Q _ => ∃ (B : Hp) (v_thing : V) (a_thing : D) (a_low : Int) (a_high : Int), Ex B H ∧ vs = [v_thing, .int a_low, .int a_high] ∧ Rep K B v_thing (enc a_thing) ∧ Post (m_is_whole a_thing a_low a_high) (fun r => Ret K [] B H (enc r) Q) (fun _ => False)
abbrev s_is_whole : Stmt := top 1
theorem sc_is_whole : FnScope ["thing", "low", "high"] ["thing", "low", "high"] (defScope s_is_whole) := ⟨rfl, rfl, rfl, by decide +kernel, rfl, by decide +kernel, by decide +kernel⟩
/-! ### is_bytes -/
def m_is_bytes (a_thing : D) : Res Bool :=
  (if (isA "list" a_thing) = true then (asL a_thing).bind fun l1 => (compR (l1) (() : Unit) (fun x11 (a15 : Unit) => (m_is_whole x11 0 255).bind fun x27 => .ok (some x27, ()))).bind <| un2 fun acc14 a15 => .ok (acc14.all id) else .ok false)
def sp_is_bytes (K : PySem.W.Frag) : Sp := fun vs H Q _ => ∃ (B : Hp) (v_thing : V) (a_thing : D), Ex B H ∧ vs = [v_thing] ∧ Rep K B v_thing (enc a_thing) ∧ Post (m_is_bytes a_thing) (fun r => Ret K [] B H (enc r) Q) (fun _ => False)
abbrev s_is_bytes : Stmt := top 2
theorem sc_is_bytes : FnScope ["thing", "byte"] ["thing"] (defScope s_is_bytes) := ⟨rfl, rfl, rfl, by decide +kernel, rfl, by decide +kernel, by decide +kernel⟩
/-! ### _law_cell_at -/
def l_cell_at (a_script : (List Int)) (a_k : Int) : Res Int :=
  (if (decide (a_k < (a_script.length : Int))) = true then (ixR a_script a_k).bind fun x9 => .ok x9 else .ok 0)
def sp__law_cell_at (K : PySem.W.Frag) : Sp := fun vs H Q _ => ∃ (B : Hp) (v_script : V) (a_script : (List Int)) (a_k : Int), Ex B H ∧ vs = [v_script, .int a_k] ∧ Bor K B H [] v_script (a_script.map enc) ∧ Post (l_cell_at a_script a_k) (fun r => Ret K [] B H (enc r) Q) (fun _ => False)
abbrev s__law_cell_at : Stmt := top 4
theorem sc__law_cell_at : FnScope ["_law_script", "_law_k"] ["_law_script", "_law_k"] (defScope s__law_cell_at) := ⟨rfl, rfl, rfl, by decide +kernel, rfl, by decide +kernel, by decide +kernel⟩
/-! ### _law_digit -/
def l_digit (a_state : (List Int)) (a_base : Int) : Res (Int × (List Int)) :=
  ((if (decide ((a_state.length : Int) = 1)) = true then (ixR a_state 0).bind fun x12 => guardR (a_state.length + ([(x12 % 2147483647), 0] : List Int).length ≤ 1000000) <| .ok (a_state ++ ([(x12 % 2147483647), 0] : List Int)) else .ok a_state) : Res ((List Int))).bind fun a26 => (ixR a26 0).bind fun x34 => (if (decide (a_base ≤ x34)) = true then (ixR a26 0).bind fun x42 => guardR (0 < a_base) <| lt ((x42 % a_base) : Int) fun x46 => (ixR a26 0).bind fun x51 => guardR (CDivW x51 a_base) <| (setR a26 0 (x51 / a_base)).bind fun x55 => .ok (x46, x55) else (ixR a26 2).bind fun x64 => (setR a26 2 (x64 + 1)).bind fun x68 => (ixR x68 1).bind fun x77 => (ixR x68 2).bind fun x85 => lt (((((x77 + (7919 * x85)) + 1) * 48271) % 2147483647) : Int) fun x89 => guardR (CMulW x89 ((x89 / 1009) + 69621)) <| lt (((x89 * ((x89 / 1009) + 69621)) % 2147483647) : Int) fun x90 => guardR (CMulW x90 ((x90 / 2003) + 40692)) <| guardR (0 < a_base) <| .ok ((((x90 * ((x90 / 2003) + 40692)) % 2147483399) % a_base), x68))
def sp__law_digit (K : PySem.W.Frag) : Sp := fun vs H Q _ => ∃ (B : Hp) (p_state : Addr) (a_state : (List Int)) (a_base : Int), Ex B H ∧ vs = [.ref p_state, .int a_base] ∧ Mu K B H p_state (a_state.map enc) ∧ Post (l_digit a_state a_base) (fun r => RetM K p_state B H (enc r.1) (r.2.map enc) Q) (fun _ => False)
abbrev s__law_digit : Stmt := top 5
theorem sc__law_digit : FnScope ["_law_state", "_law_base", "_law_found", "_law_number"] ["_law_state", "_law_base"] (defScope s__law_digit) := ⟨rfl, rfl, rfl, by decide +kernel, rfl, by decide +kernel, by decide +kernel⟩
/-! ### _law_truth -/
def l_truth (a_found : Bool) (a_due : Bool) : Res Bool :=
  (ixR ([(decide (a_found = false)), (decide (a_found = true))] : List Bool) (b2z a_due)).bind fun x10 => .ok x10
def sp__law_truth (K : PySem.W.Frag) : Sp := fun vs H Q _ => ∃ (B : Hp) (a_found : Bool) (a_due : Bool), Ex B H ∧ vs = [.bl a_found, .bl a_due] ∧ Post (l_truth a_found a_due) (fun r => Ret K [] B H (enc r) Q) (fun _ => False)
abbrev s__law_truth : Stmt := top 6
theorem sc__law_truth : FnScope ["_law_found", "_law_due"] ["_law_found", "_law_due"] (defScope s__law_truth) := ⟨rfl, rfl, rfl, by decide +kernel, rfl, by decide +kernel, by decide +kernel⟩
/-! ### _law_great -/
def l_great (a_state : (List Int)) : Res (Int × (List Int)) :=
  (forR (rngI 0 4) ((0, a_state) : Int × (List Int)) (fun x10 (a9 : Int × (List Int)) => (l_digit a9.2 (1000000000 + 7)).bind fun x17 => lt (((a9.1 * 10000000000) + x17.1) : Int) fun x23 => .ok (.nx (x23, x17.2)))).bind (afterR fun a24 => (l_digit a24.2 2).bind fun x34 => (ixR ([1, (-1)] : List Int) x34.1).bind fun x44 => guardR (CMulW a24.1 x44) <| .ok ((a24.1 * x44), x34.2))
def sp__law_great (K : PySem.W.Frag) : Sp := fun vs H Q _ => ∃ (B : Hp) (p_state : Addr) (a_state : (List Int)), Ex B H ∧ vs = [.ref p_state] ∧ Mu K B H p_state (a_state.map enc) ∧ Post (l_great a_state) (fun r => RetM K p_state B H (enc r.1) (r.2.map enc) Q) (fun _ => False)
abbrev s__law_great : Stmt := top 7
theorem sc__law_great : FnScope ["_law_state", "_law_number", "_law_k"] ["_law_state"] (defScope s__law_great) := ⟨rfl, rfl, rfl, by decide +kernel, rfl, by decide +kernel, by decide +kernel⟩
/-! ### _law_whole_right -/
def l_whole_right (a_state : (List Int)) : Res (Bool × (List Int)) :=
  (l_digit a_state 300).bind fun x1 => (l_great x1.2).bind fun x7 => (l_digit x7.2 4).bind fun x18 => (ixR ([0, 1, x1.1, x7.1] : List Int) x18.1).bind fun x28 => (l_digit x18.2 1000000).bind fun x32 => (l_digit x32.2 5).bind fun x43 => (ixR ([0, 1, 255, x32.1, (-1)] : List Int) x43.1).bind fun x53 => lt ((x28 + x53) : Int) fun x57 => (l_great x43.2).bind fun x58 => (l_digit x58.2 7).bind fun x69 => (ixR ([x28, x57, (x28 - 1), (x57 + 1), (x28 + ((x57 - x28) / 2)), (0 - x28), x58.1] : List Int) x69.1).bind fun x79 => (m_is_whole (enc (x79 : Int)) x28 x57).bind fun x83 => (l_truth x83 ((decide (x28 ≤ x79)) && (decide (x79 ≤ x57)))).bind fun x91 => (if x91 = true then guardR ((x28 % 1000).natAbs.log2 < 1920) <| (l_digit x69.2 9).bind fun x122 => (ixR ([(enc true), (enc false), (enc ()), (enc (toString (x28 % 1000) : Str)), (enc (⟨x28⟩ : (Tp1 Int))), (enc ([x28] : List Int)), (.dic [(.inl x28, (enc (x28 : Int)))] : D), (enc ("" : Str)), (enc (⟨x28, x57⟩ : (Tp2 Int Int)))] : List D) x122.1).bind fun x132 => (m_is_whole x132 x28 x57).bind fun x136 => (if (decide (x136 = false)) = true then (m_is_whole x132 0 1).bind fun x142 => .ok ((decide (x142 = false)), x122.2) else .ok (false, x122.2)) else .ok (false, x69.2))
def sp__law_whole_right (K : PySem.W.Frag) : Sp := fun vs H Q _ => ∃ (B : Hp) (p_state : Addr) (a_state : (List Int)), Ex B H ∧ vs = [.ref p_state] ∧ Mu K B H p_state (a_state.map enc) ∧ Post (l_whole_right a_state) (fun r => RetM K p_state B H (enc r.1) (r.2.map enc) Q) (fun _ => False)
abbrev s__law_whole_right : Stmt := top 8
theorem sc__law_whole_right : FnScope ["_law_state", "_law_under", "_law_above", "_law_near", "_law_what", "_law_some", "_law_odd"] ["_law_state"] (defScope s__law_whole_right) := ⟨rfl, rfl, rfl, by decide +kernel, rfl, by decide +kernel, by decide +kernel⟩
/-! ### _law_row -/
def l_row (a_state : (List Int)) : Res ((List Int) × (List Int)) :=
  (l_digit a_state 8).bind fun x1 => (l_digit x1.2 61).bind fun x7 => (l_digit x7.2 4).bind fun x18 => (ixR ([0, 1, x1.1, x7.1] : List Int) x18.1).bind fun x28 => guardR (-(2 ^ 62) ≤ (x28 : Int)) <| (compR (rngI 0 x28) (x18.2 : (List Int)) (fun x36 (a40 : (List Int)) => (l_digit a40 256).bind fun x53 => (l_digit x53.2 2).bind fun x59 => (l_digit x59.2 4).bind fun x70 => (ixR ([x53.1, (255 * x59.1)] : List Int) (x70.1 / 3)).bind fun x80 => .ok (some x80, x70.2))).bind <| un2 fun acc39 a40 => .ok (acc39, a40)
def sp__law_row (K : PySem.W.Frag) : Sp := fun vs H Q _ => ∃ (B : Hp) (p_state : Addr) (a_state : (List Int)), Ex B H ∧ vs = [.ref p_state] ∧ Mu K B H p_state (a_state.map enc) ∧ Post (l_row a_state) (fun r => RetM K p_state B H (enc r.1) (r.2.map enc) Q) (fun _ => False)
abbrev s__law_row : Stmt := top 9
theorem sc__law_row : FnScope ["_law_state", "_law_many", "_law_k"] ["_law_state"] (defScope s__law_row) := ⟨rfl, rfl, rfl, by decide +kernel, rfl, by decide +kernel, by decide +kernel⟩
/-! ### _law_rows_right -/
def l_rows_right (a_state : (List Int)) : Res (Bool × (List Int)) :=
  (l_row a_state).bind fun x1 => (m_is_bytes (enc x1.1)).bind fun x16 => (if (!decide (x16 = true)) = true then .ok (false, x1.2) else guardR (okEq (enc x1.1) (enc x1.1)) <| (if (!(eqD (enc x1.1) (enc x1.1))) = true then .ok (false, x1.2) else (l_great x1.2).bind fun x32 => (l_digit x32.2 11).bind fun x48 => (ixR ([(enc (256 : Int)), (enc ((-1) : Int)), (enc true), (enc ()), (enc ("0" : Str)), (enc ("a" : Str)), (enc ([0] : List Int)), (enc (⟨0⟩ : (Tp1 Int))), (enc ((0 - (absI x32.1)) : Int)), (enc false), (.dic [] : D)] : List D) x48.1).bind fun x58 => (l_digit x48.2 ((x1.1.length : Int) + 1)).bind fun x66 => guardR (((cutL x1.1 none (some x66.1)).map enc : List D).length + ([x58] : List D).length ≤ 1000000) <| guardR ((((cutL x1.1 none (some x66.1)).map enc : List D) ++ ([x58] : List D)).length + ((cutL x1.1 (some x66.1) none).map enc : List D).length ≤ 1000000) <| (compR (x1.1) (() : Unit) (fun x147 (a151 : Unit) => .ok (some (⟨x147, x147⟩ : (Tp2 Int Int)), ()))).bind <| un2 fun acc150 a151 => (l_digit x66.2 10).bind fun x196 => (ixR ([(.tup (x1.1.map enc) : D), (enc ()), (enc ("" : Str)), (enc ("00" : Str)), (enc (0 : Int)), (.dic [] : D), (.tup [] : D), (enc true), (.dic (dictI acc150) : D), (enc ([x1.1] : List (List Int)))] : List D) x196.1).bind fun x206 => ((if (isA "int" x58) = true then (if (!(isA "bool" x58)) = true then (asI x58).bind fun i213 => .ok ((decide (0 ≤ i213)) && (decide (i213 ≤ 255))) else .ok false) else .ok false) : Res (Bool)).bind fun a218 => (m_is_bytes (enc ((((cutL x1.1 none (some x66.1)).map enc : List D) ++ ([x58] : List D)) ++ ((cutL x1.1 (some x66.1) none).map enc : List D)))).bind fun x224 => (l_truth x224 a218).bind fun x230 => (if x230 = true then (m_is_bytes x206).bind fun x236 => (if (decide (x236 = false)) = true then (m_is_bytes (enc x1.1)).bind fun x242 => .ok ((decide (x242 = true)), x196.2) else .ok (false, x196.2)) else .ok (false, x196.2))))
def sp__law_rows_right (K : PySem.W.Frag) : Sp := fun vs H Q _ => ∃ (B : Hp) (p_state : Addr) (a_state : (List Int)), Ex B H ∧ vs = [.ref p_state] ∧ Mu K B H p_state (a_state.map enc) ∧ Post (l_rows_right a_state) (fun r => RetM K p_state B H (enc r.1) (r.2.map enc) Q) (fun _ => False)
abbrev s__law_rows_right : Stmt := top 10
theorem sc__law_rows_right : FnScope ["_law_state", "_law_row_here", "_law_held", "_law_odd", "_law_what", "_law_at", "_law_spoilt", "_law_bad", "_law_k", "_law_good"] ["_law_state"] (defScope s__law_rows_right) := ⟨rfl, rfl, rfl, by decide +kernel, rfl, by decide +kernel, by decide +kernel⟩
/-! ### law -/
def m_law (a_script : (List Int)) : Res Bool :=
  (l_cell_at a_script 0).bind fun x1 => guardR (([0] : List Int).length + (cutL a_script (some 1) (some 13)).length ≤ 1000000) <| (forR ((([0] : List Int) ++ (cutL a_script (some 1) (some 13)))) (() : Unit) (fun x52 (a51 : Unit) => (l_whole_right ([x52] : List Int)).bind fun x67 => (if x67.1 = true then (l_rows_right ([x52] : List Int)).bind fun x81 => (if x81.1 = true then .ok (.nx ()) else .ok (.rt false)) else .ok (.rt false)))).bind (afterR fun a87 => (l_whole_right ([x1] : List Int)).bind fun x92 => (if x92.1 = true then (l_rows_right x92.2).bind fun x98 => .ok x98.1 else .ok false))
def sp_law (K : PySem.W.Frag) : Sp := fun vs H Q _ => ∃ (B : Hp) (v_script : V) (a_script : (List Int)), Ex B H ∧ vs = [v_script] ∧ Bor K B H [] v_script (a_script.map enc) ∧ Post (m_law a_script) (fun r => Ret K [] B H (enc r) Q) (fun _ => False)
abbrev s_law : Stmt := top 11
theorem sc_law : FnScope ["_law_script", "_law_state", "_law_cell"] ["_law_script"] (defScope s_law) := ⟨rfl, rfl, rfl, by decide +kernel, rfl, by decide +kernel, by decide +kernel⟩
section
variable {Pr : Program} {wo : World} {K : PySem.W.Frag} {mg : Str → Option Value} {base : Heap}
theorem ok_is_whole {f : Addr} {fd : FuncData} (F : Fun K "is_whole" "is_whole" s_is_whole f fd) (bI_isinstance : mg "isinstance" = none) (bI_int : mg "int" = none) (bI_bool : mg "bool" = none) : FnOk Pr wo K mg base CX0 1 f fd ["thing", "low", "high"] (sp_is_whole K) := by
  refine F.ok sc_is_whole (fun vs H Q E h => ?_) (fun cdv A outer s H vs Q E hr h => ?_)
  · obtain ⟨_, _, _, _, _, _, rfl, _⟩ := h; rfl
  · obtain ⟨B, v, d, lo, hi, w, rfl, r, k⟩ := h
    have st := Stp.refl (W := []) w
    refine ⟨_, pss_one (ps_ret (pe_and (pe_callB call_isi (by rfl) bI_isinstance PyProof.Rows.boot_isinstance (pa_cons (pv 0) (pa_cons (pe_bltn (v := .ty "int") (by rfl) bI_int Y.boot_int rfl) pa_nil)))
      (pe_and (pe_not (pe_callB call_isi (by rfl) bI_isinstance PyProof.Rows.boot_isinstance (pa_cons (pv 0) (pa_cons (pe_bltn (v := .ty "bool") (by rfl) bI_bool Y.boot_bool rfl) pa_nil))))
       (pe_one (pe_chain op_le op_le (pv 1) (pv 0) (pv 2)))))), ?_⟩
    refine h_ret (h_and (h_cb (h_cons (h_var rfl (h_cons (h_c (h_nil (isi (t := "int") w r (h_bl ?_)))))))))
    cases d <;> try exact h_iteF (k.ok _ _ _ st (Rep.bl _))
    · refine h_iteT (h_and (h_not (h_cb (h_cons (h_var rfl (h_cons (h_c (h_nil (isi (t := "bool") w r (h_bl (h_bl ?_))))))))))) 
      exact h_iteF (k.ok _ _ _ st (Rep.bl _))
    · cases r
      refine h_iteT (h_and (h_not (h_cb (h_cons (h_var rfl (h_cons (h_c (h_nil (isi (t := "bool") w (Rep.int _) (h_bl (h_bl ?_)))))))))))
      refine h_iteT (h_chain (h_var rfl (h_var rfl (h_ch (fun Q q => h_var rfl q) ?_))))
      exact k.ok _ _ _ st (Rep.bl _)
theorem ok_is_bytes {f : Addr} {fd : FuncData} (F : Fun K "is_bytes" "is_bytes" s_is_bytes f fd) {f_is_whole : Addr} {d_is_whole : FuncData} (g_is_whole : mg "is_whole" = some (.ref f_is_whole)) (k_is_whole : PySem.W.keepIn K (.ref f_is_whole) = true) (b_is_whole : Binds K d_is_whole ["thing", "low", "high"] []) (G_is_whole : FnOk Pr wo K mg base CX0 1 f_is_whole d_is_whole ["thing", "low", "high"] (sp_is_whole K)) (bI_isinstance : mg "isinstance" = none) (bI_list : mg "list" = none) (bI_all : mg "all" = none) : FnOk Pr wo K mg base CX0 2 f fd ["thing"] (sp_is_bytes K) := by
  refine F.ok sc_is_bytes (fun vs H Q E h => ?_) (fun cdv A outer s H0 vs Q E hr h => ?_)
  · obtain ⟨_, _, _, _, rfl, _⟩ := h; rfl
  · obtain ⟨B0, v_thing, a_thing, w, rfl, r_thing, P⟩ := h
    have w0 := w
    have hu := hu_of hr
    have hu64 := hu64_of hr
    have hr1 : Room 1 _ := hr.mono (by decide)
    refine ⟨_, (pss_one (ps_ret (pe_and (pe_callB (r := rIsi K) call_isi (by rfl) bI_isinstance PyProof.Rows.boot_isinstance (pa_cons (pv 0) (pa_cons (pe_bltn (v := .ty "list") (by rfl) bI_list Y.boot_list rfl) pa_nil))) (pe_one (pe_callB (r := rAll K) (cr_all rfl) (by rfl) bI_all PyProof.Rows.boot_all (pa_cons (pe_lc (own := [("byte", 1)]) rfl sc_is_bytes.nd (pi_list (pv 0)) (blkOk_by (N := ["thing", "byte"]) (sc := defScope s_is_bytes) (by decide +kernel)) (fun _ _ _ _ _ => (pg_name (i := 1) sc_is_bytes.nd rfl (by first | exact Or.inl rfl | exact Or.inr rfl))) (fun _ _ _ _ _ => pts_nil) (fun _ _ _ _ _ => (pe_call G_is_whole hr1 rfl g_is_whole k_is_whole b_is_whole .nil pass0 (pa_cons (pv 1) (pa_cons pe_int (pa_cons pe_int pa_nil)))))) pa_nil)))))), ?_⟩
    unfold m_is_bytes at P
    have st := Stp.refl (W := []) w
    refine h_ret ?_
    refine h_and ?_
    refine h_cb ?_
    refine h_cons ?_
    refine h_var rfl ?_
    refine h_cons ?_
    refine h_c ?_
    refine h_nil ?_
    refine isi (t := "list") w (r_thing.mono st.ex) ?_
    refine h_bl ?_
    refine h_ite (fun c1 => ?_) (fun c1 => ?_)
    · replace P := P.iteT c1
      refine h_cb ?_
      refine h_cons ?_
      refine h_lcE ?_
      refine h_var rfl ?_
      obtain ⟨l1, hl2, P⟩ := P.asL
      have rc3 := (r_thing.mono st.ex)
      rw [hl2] at rc3
      obtain ⟨p4, xs5, rfl, hb6, hr7⟩ := Rep.sqB rc3
      refine h_lcL P (w.l hb6) hr7 (fun Dl (acc : List Bool) (a : Unit) H' => ∃ B', Stp [] B0 H0 B' H' ∧ H0 Dl = none ∧ Mu K B' H' Dl (acc.map enc)) (fun Dl hD => ⟨_, Stp.newM w hD, hD, Mu.new w hD .nil⟩) (fun _ _ _ _ j => ?_) ?_ ?_
      · obtain ⟨B17, s18, hD19, m20⟩ := j
        exact s18.ok.l (s18.ex.l hb6)
      · rintro Dl8 N9 T10 x11 v12 acc14 a15 H16 ⟨B17, s18, hD19, m20⟩ r13 hz21 kk22 kn23 P
        have wj25 := w
        have sj24 := s18
        have n26 := st.nn hD19
        replace st := st.go s18 go0
        replace w := s18.ok
        replace r13 := r13.mono s18.ex
        refine h_gname ?_
        refine h_lcT rfl ?_
        refine h_call ?_
        refine h_cons ?_
        refine h_var rfl ?_
        refine h_cons ?_
        refine h_c ?_
        refine h_cons ?_
        refine h_c ?_
        refine h_nil ?_
        refine ⟨B17, v12, x11, 0, 255, w, rfl, r13, (P.bind).mono (fun x27 P => ?_) (fun _ z => z)⟩
        refine fun v31 B28 H29 s30 r32 => ?_
        replace r13 := r13.mono s30.ex
        replace m20 := m20.step s30 nm0
        replace st := st.go s30 go0
        replace sj24 := sj24.go s30 go0
        replace w := s30.ok
        cases r32
        refine h_app (b := x27) w m20 (Rep.bl _) hz21 (fun H33 s34 m20 => ?_)
        replace r13 := r13.mono s34.ex
        replace st := st.go s34 (go1 (.inr n26))
        replace sj24 := sj24.go s34 (go1 (.inr hD19))
        replace w := s34.ok
        exact kk22 x27 () _ ⟨_, sj24, hD19, m20⟩ P.ok
      · rintro Dl8 acc14 a15 H16 ⟨B17, s18, hD19, m20⟩ P
        have n35 := st.nn hD19
        replace st := st.go s18 go0
        replace w := s18.ok
        replace P := P.un2
        obtain ⟨B40, e36, k37, g38, r39⟩ := Mu.keep m20
        replace st := g38 _ _ _ st w0 n35
        replace w := st.ok
        replace r39 : Rep K B40 (.ref Dl8) (enc acc14) := r39
        refine h_nil ?_
        obtain ⟨p41, xs42, hv, hs43, hr44⟩ := Rep.sq w r39
        cases hv
        refine h_all hs43 hr44 ?_
        exact P.ok _ _ _ st (Rep.bl _)
    · replace P := P.iteF c1
      exact P.ok _ _ _ st (Rep.bl _)
theorem ok__law_cell_at {f : Addr} {fd : FuncData} (F : Fun K "_law_cell_at" "_law_cell_at" s__law_cell_at f fd) (bI_len : mg "len" = none) : FnOk Pr wo K mg base CX0 1 f fd ["_law_script", "_law_k"] (sp__law_cell_at K) := by
  refine F.ok sc__law_cell_at (fun vs H Q E h => ?_) (fun cdv A outer s H0 vs Q E hr h => ?_)
  · obtain ⟨_, _, _, _, _, rfl, _⟩ := h; rfl
  · obtain ⟨B0, v_script, a_script, a_k, w, rfl, r_script, P⟩ := h
    have w0 := w
    have hu := hu_of hr
    have hu64 := hu64_of hr
    refine ⟨_, (pss_cons (ps_if (pt_cmpR op_lt (pv 1) (pe_callB (r := rLenY K) cr_len (by rfl) bI_len PySem.boot_len (pa_cons (pv 0) pa_nil)) (nomark _)) (pss_one (ps_ret (pe_ix (r := rIxL K) ix_list (pv 0) (pv 1) (fun _ _ => rfl)))) pss_nil)
      (pss_one (ps_ret pe_int))), ?_⟩
    unfold l_cell_at at P
    have st := Stp.refl (W := []) w
    refine h_seq <| h_if ?_
    refine h_test ?_
    refine h_op ?_
    refine h_var rfl ?_
    refine h_cb ?_
    refine h_cons ?_
    refine h_var rfl ?_
    refine h_nil ?_
    obtain ⟨p1, xs2, rfl, hs3, hr4⟩ := Bor.sq (r_script.step st)
    refine h_len hs3 hr4 ?_
    refine h_I0 ?_
    refine h_bl ?_
    refine h_ite (fun c1 => ?_) (fun c1 => ?_)
    · replace P := P.iteT c1
      refine h_ret ?_
      refine h_op ?_
      refine h_var rfl ?_
      refine h_var rfl ?_
      obtain ⟨p5, xs6, hv, hs7, hr8⟩ := Bor.sq (r_script.step st)
      cases hv
      obtain ⟨x9, hx10, P⟩ := P.ix
      obtain ⟨u11, hu, r12⟩ := RepL.atE hr8 hx10
      refine h_ixL hs7 hu ?_
      cases r12
      exact P.ok _ _ _ st (Rep.int _)
    · replace P := P.iteF c1
      refine h_next ?_
      refine h_nx ?_
      refine h_ret ?_
      refine h_c ?_
      exact P.ok _ _ _ st (Rep.int _)
theorem ok__law_digit {f : Addr} {fd : FuncData} (F : Fun K "_law_digit" "_law_digit" s__law_digit f fd) (bI_len : mg "len" = none) : FnOk Pr wo K mg base CX0 1 f fd ["_law_state", "_law_base"] (sp__law_digit K) := by
  refine F.ok sc__law_digit (fun vs H Q E h => ?_) (fun cdv A outer s H0 vs Q E hr h => ?_)
  · obtain ⟨_, _, _, _, _, rfl, _⟩ := h; rfl
  · obtain ⟨B0, p_state, a_state, a_base, w, rfl, m_state, P⟩ := h
    have w0 := w
    have hu := hu_of hr
    have hu64 := hu64_of hr
    refine ⟨_, (pss_cons (ps_if (pt_cmpR op_eq (pe_callB (r := rLenY K) cr_len (by rfl) bI_len PySem.boot_len (pa_cons (pv 0) pa_nil)) pe_int (nomark _)) (pss_one (ps_expr (pe_bm PySem.F.plainAttrs_list PySem.F.slot_list_extend PySem.F.type_list_extend mt_extend (pv 0) (pa_cons (pe_lst (pa_cons (pe_op op_mod (pe_ix (r := rIxL K) ix_list (pv 0) pe_int (fun _ _ => rfl)) pe_int) (pa_cons pe_int pa_nil))) pa_nil)))) pss_nil)
      (pss_cons (ps_if (pt_cmpR op_ge (pe_ix (r := rIxL K) ix_list (pv 0) pe_int (fun _ _ => rfl)) (pv 1) (nomark _)) (pss_cons (ps_set (i := 2) sc__law_digit.nd rfl (by first | exact Or.inl rfl | exact Or.inr rfl) (pe_op op_mod (pe_ix (r := rIxL K) ix_list (pv 0) pe_int (fun _ _ => rfl)) (pv 1)))
      (pss_cons (ps_asg (pe_op op_fdivW (pe_ix (r := rIxL K) ix_list (pv 0) pe_int (fun _ _ => rfl)) (pv 1)) (pg_sub (pv 0) pe_int set_list))
      (pss_one (ps_ret (pv 2))))) pss_nil)
      (pss_cons (ps_asg (pe_op op_add (pe_ix (r := rIxL K) ix_list (pv 0) pe_int (fun _ _ => rfl)) pe_int) (pg_sub (pv 0) pe_int set_list))
      (pss_cons (ps_set (i := 3) sc__law_digit.nd rfl (by first | exact Or.inl rfl | exact Or.inr rfl) (pe_op op_mod (pe_op op_mul (pe_op op_add (pe_op op_add (pe_ix (r := rIxL K) ix_list (pv 0) pe_int (fun _ _ => rfl)) (pe_op op_mul pe_int (pe_ix (r := rIxL K) ix_list (pv 0) pe_int (fun _ _ => rfl)))) pe_int) pe_int) pe_int))
      (pss_cons (ps_set (i := 3) sc__law_digit.nd rfl (by first | exact Or.inl rfl | exact Or.inr rfl) (pe_op op_mod (pe_op op_mulW (pv 3) (pe_op op_add (pe_op op_fdiv (pv 3) pe_int) pe_int)) pe_int))
      (pss_one (ps_ret (pe_op op_mod (pe_op op_mod (pe_op op_mulW (pv 3) (pe_op op_add (pe_op op_fdiv (pv 3) pe_int) pe_int)) pe_int) (pv 1))))))))), ?_⟩
    unfold l_digit at P
    have st := Stp.refl (W := [p_state]) w
    have wj2 := w
    have sj1 := Stp.refl (W := [p_state]) w
    refine h_joinS P (fun (a : (List Int)) σ' H' => ∃ (B' : Hp), Stp [p_state] B0 H0 B' H' ∧ σ' = [some ((.ref p_state)), some (.int a_base), none, none] ∧ Mu K B' H' p_state (a.map enc)) (fun N kk3 P => h_if ?_) ?_
    · skip
      refine h_test ?_
      refine h_op ?_
      refine h_cb ?_
      refine h_cons ?_
      refine h_var rfl ?_
      refine h_nil ?_
      obtain ⟨xs5, hv, hs6, hr7⟩ := Mu.sq m_state
      refine h_len hs6 hr7 ?_
      refine h_c ?_
      refine h_eqI ?_
      refine h_bl ?_
      refine h_ite (fun c1 => ?_) (fun c1 => ?_)
      · replace P := P.iteT c1
        refine h_drop ?_
        refine h_bm ?_
        refine h_var rfl ?_
        refine h_bmL m_state ?_
        refine h_cons ?_
        refine h_lst ?_
        refine h_cons ?_
        refine h_op ?_
        refine h_op ?_
        refine h_var rfl ?_
        refine h_c ?_
        obtain ⟨xs9, hv, hs10, hr11⟩ := Mu.sq m_state
        obtain ⟨x12, hx13, P⟩ := P.ix
        obtain ⟨u14, hu, r15⟩ := RepL.atE hr11 hx13
        refine h_ixL hs10 hu ?_
        cases r15
        refine h_c ?_
        refine h_I (by decide +kernel) ?_
        refine h_cons ?_
        refine h_c ?_
        refine h_nil ?_
        refine h_newM w (ds := (([(x12 % 2147483647), 0] : List Int)).map enc) (K := K) (.cons (Rep.int _) (.cons (Rep.int _) .nil)) (fun p16 H17 hn20 s18 m19 => ?_) (by show 2 ≤ sizeLine; decide)
        have n21 := st.nn hn20
        have n22 := sj1.nn hn20
        have ne23 := Mu.ne m_state hn20
        replace m_state := m_state.step s18 nm0
        replace st := st.go s18 go0
        replace sj1 := sj1.go s18 go0
        replace w := s18.ok
        refine h_nil ?_
        obtain ⟨gd, P⟩ := P.guard
        refine h_extend w m_state m19 gd (fun H24 s25 m_state => ?_)
        replace st := st.go s25 (go1 (.inl (by simp)))
        replace sj1 := sj1.go s25 (go1 (.inl (by simp)))
        replace w := s25.ok
        refine h_nx ?_
        exact kk3 (a_state ++ ([(x12 % 2147483647), 0] : List Int)) _ _ ⟨_, sj1, rfl, m_state⟩ P.ok
      · replace P := P.iteF c1
        refine h_next ?_
        refine h_nx ?_
        exact kk3 a_state _ _ ⟨_, sj1, rfl, m_state⟩ P.ok
    rintro a26 _ H28 ⟨B27, s29, rfl, m_state⟩ P
    replace st := st.go s29 (go1 (.inl (by simp)))
    replace w := s29.ok
    refine h_seq <| h_if ?_
    refine h_test ?_
    refine h_op ?_
    refine h_op ?_
    refine h_var rfl ?_
    refine h_c ?_
    obtain ⟨xs31, hv, hs32, hr33⟩ := Mu.sq m_state
    obtain ⟨x34, hx35, P⟩ := P.ix
    obtain ⟨u36, hu, r37⟩ := RepL.atE hr33 hx35
    refine h_ixL hs32 hu ?_
    cases r37
    refine h_var rfl ?_
    refine h_I0 ?_
    refine h_bl ?_
    refine h_ite (fun c1 => ?_) (fun c1 => ?_)
    · replace P := P.iteT c1
      refine h_set ?_
      refine h_op ?_
      refine h_op ?_
      refine h_var rfl ?_
      refine h_c ?_
      obtain ⟨xs39, hv, hs40, hr41⟩ := Mu.sq m_state
      obtain ⟨x42, hx43, P⟩ := P.ix
      obtain ⟨u44, hu, r45⟩ := RepL.atE hr41 hx43
      refine h_ixL hs40 hu ?_
      cases r45
      refine h_var rfl ?_
      obtain ⟨gd, P⟩ := P.guard
      refine h_I gd ?_
      replace P := P.lt
      generalize hx : (x42 % a_base) = x46 at P ⊢
      refine h_seq ?_
      refine h_asg ?_
      refine h_op ?_
      refine h_op ?_
      refine h_var rfl ?_
      refine h_c ?_
      obtain ⟨xs48, hv, hs49, hr50⟩ := Mu.sq m_state
      obtain ⟨x51, hx52, P⟩ := P.ix
      obtain ⟨u53, hu, r54⟩ := RepL.atE hr50 hx52
      refine h_ixL hs49 hu ?_
      cases r54
      refine h_var rfl ?_
      obtain ⟨gd, P⟩ := P.guard
      refine h_I gd ?_
      refine h_sub ?_
      refine h_var rfl ?_
      refine h_c ?_
      obtain ⟨j56, hj57, P⟩ := P.set
      refine h_setL (b := (x51 / a_base)) w m_state (Rep.int _) hj57 (fun H58 s59 m_state => ?_)
      replace st := st.go s59 (go1 (.inl (by simp)))
      replace w := s59.ok
      generalize hl : List.set a26 j56 (x51 / a_base) = x55 at *
      refine h_nx ?_
      refine h_ret ?_
      refine h_var rfl ?_
      exact P.ok _ _ _ st m_state (Rep.int _)
    · replace P := P.iteF c1
      refine h_next ?_
      refine h_nx ?_
      refine h_seq ?_
      refine h_asg ?_
      refine h_op ?_
      refine h_op ?_
      refine h_var rfl ?_
      refine h_c ?_
      obtain ⟨xs61, hv, hs62, hr63⟩ := Mu.sq m_state
      obtain ⟨x64, hx65, P⟩ := P.ix
      obtain ⟨u66, hu, r67⟩ := RepL.atE hr63 hx65
      refine h_ixL hs62 hu ?_
      cases r67
      refine h_c ?_
      refine h_I0 ?_
      refine h_sub ?_
      refine h_var rfl ?_
      refine h_c ?_
      obtain ⟨j69, hj70, P⟩ := P.set
      refine h_setL (b := (x64 + 1)) w m_state (Rep.int _) hj70 (fun H71 s72 m_state => ?_)
      replace st := st.go s72 (go1 (.inl (by simp)))
      replace w := s72.ok
      generalize hl : List.set a26 j69 (x64 + 1) = x68 at *
      refine h_nx ?_
      refine h_set ?_
      refine h_op ?_
      refine h_op ?_
      refine h_op ?_
      refine h_op ?_
      refine h_op ?_
      refine h_var rfl ?_
      refine h_c ?_
      obtain ⟨xs74, hv, hs75, hr76⟩ := Mu.sq m_state
      obtain ⟨x77, hx78, P⟩ := P.ix
      obtain ⟨u79, hu, r80⟩ := RepL.atE hr76 hx78
      refine h_ixL hs75 hu ?_
      cases r80
      refine h_op ?_
      refine h_c ?_
      refine h_op ?_
      refine h_var rfl ?_
      refine h_c ?_
      obtain ⟨xs82, hv, hs83, hr84⟩ := Mu.sq m_state
      obtain ⟨x85, hx86, P⟩ := P.ix
      obtain ⟨u87, hu, r88⟩ := RepL.atE hr84 hx86
      refine h_ixL hs83 hu ?_
      cases r88
      refine h_I (.inl ⟨by decide +kernel, by decide +kernel⟩) ?_
      refine h_I0 ?_
      refine h_c ?_
      refine h_I0 ?_
      refine h_c ?_
      refine h_I (.inr ⟨by decide +kernel, by decide +kernel⟩) ?_
      refine h_c ?_
      refine h_I (by decide +kernel) ?_
      replace P := P.lt
      generalize hx : ((((x77 + (7919 * x85)) + 1) * 48271) % 2147483647) = x89 at P ⊢
      refine h_set ?_
      refine h_op ?_
      refine h_op ?_
      refine h_var rfl ?_
      refine h_op ?_
      refine h_op ?_
      refine h_var rfl ?_
      refine h_c ?_
      refine h_I ⟨by decide +kernel, by decide +kernel⟩ ?_
      refine h_c ?_
      refine h_I0 ?_
      obtain ⟨gd, P⟩ := P.guard
      refine h_I gd ?_
      refine h_c ?_
      refine h_I (by decide +kernel) ?_
      replace P := P.lt
      generalize hx : ((x89 * ((x89 / 1009) + 69621)) % 2147483647) = x90 at P ⊢
      refine h_ret ?_
      refine h_op ?_
      refine h_op ?_
      refine h_op ?_
      refine h_var rfl ?_
      refine h_op ?_
      refine h_op ?_
      refine h_var rfl ?_
      refine h_c ?_
      refine h_I ⟨by decide +kernel, by decide +kernel⟩ ?_
      refine h_c ?_
      refine h_I0 ?_
      obtain ⟨gd, P⟩ := P.guard
      refine h_I gd ?_
      refine h_c ?_
      refine h_I (by decide +kernel) ?_
      refine h_var rfl ?_
      obtain ⟨gd, P⟩ := P.guard
      refine h_I gd ?_
      exact P.ok _ _ _ st m_state (Rep.int _)
theorem ok__law_truth {f : Addr} {fd : FuncData} (F : Fun K "_law_truth" "_law_truth" s__law_truth f fd) (bI_int : mg "int" = none) : FnOk Pr wo K mg base CX0 1 f fd ["_law_found", "_law_due"] (sp__law_truth K) := by
  refine F.ok sc__law_truth (fun vs H Q E h => ?_) (fun cdv A outer s H0 vs Q E hr h => ?_)
  · obtain ⟨_, _, _, _, rfl, _⟩ := h; rfl
  · obtain ⟨B0, a_found, a_due, w, rfl, P⟩ := h
    have w0 := w
    have hu := hu_of hr
    have hu64 := hu64_of hr
    refine ⟨_, (pss_one (ps_ret (pe_ix (r := rIxL K) ix_list (pe_lst (pa_cons (pe_cmpR op_isBl (pv 0) pe_bl (nomark _)) (pa_cons (pe_cmpR op_isBl (pv 0) pe_bl (nomark _)) pa_nil))) (pe_callTy cr_int (by rfl) bI_int Y.boot_int (pa_cons (pv 1) pa_nil)) (fun _ _ => rfl)))), ?_⟩
    unfold l_truth at P
    have st := Stp.refl (W := []) w
    refine h_ret ?_
    refine h_op ?_
    refine h_lst ?_
    refine h_cons ?_
    refine h_op ?_
    refine h_var rfl ?_
    refine h_c ?_
    refine h_isB ?_
    refine h_cons ?_
    refine h_op ?_
    refine h_var rfl ?_
    refine h_c ?_
    refine h_isB ?_
    refine h_nil ?_
    refine h_newL w (ds := (([(decide (a_found = false)), (decide (a_found = true))] : List Bool)).map enc) (K := K) (.cons (Rep.bl _) (.cons (Rep.bl _) .nil)) (fun p1 B2 H3 s4 r5 => ?_) (by show 2 ≤ sizeLine; decide)
    replace st := st.go s4 go0
    replace w := s4.ok
    replace r5 : Rep K B2 (.ref p1) (enc ([(decide (a_found = false)), (decide (a_found = true))] : List Bool)) := r5
    refine h_cb ?_
    refine h_cons ?_
    refine h_var rfl ?_
    refine h_nil ?_
    refine h_intB ?_
    obtain ⟨p6, xs7, hv, hs8, hr9⟩ := Rep.sq w r5
    cases hv
    obtain ⟨x10, hx11, P⟩ := P.ix
    obtain ⟨u12, hu, r13⟩ := RepL.atE hr9 hx11
    refine h_ixL hs8 hu ?_
    cases r13
    exact P.ok _ _ _ st (Rep.bl _)
theorem ok__law_great {f : Addr} {fd : FuncData} (F : Fun K "_law_great" "_law_great" s__law_great f fd) {f__law_digit : Addr} {d__law_digit : FuncData} (g__law_digit : mg "_law_digit" = some (.ref f__law_digit)) (k__law_digit : PySem.W.keepIn K (.ref f__law_digit) = true) (b__law_digit : Binds K d__law_digit ["_law_state", "_law_base"] []) (G__law_digit : FnOk Pr wo K mg base CX0 1 f__law_digit d__law_digit ["_law_state", "_law_base"] (sp__law_digit K)) (bI_range : mg "range" = none) : FnOk Pr wo K mg base CX0 2 f fd ["_law_state"] (sp__law_great K) := by
  refine F.ok sc__law_great (fun vs H Q E h => ?_) (fun cdv A outer s H0 vs Q E hr h => ?_)
  · obtain ⟨_, _, _, _, rfl, _⟩ := h; rfl
  · obtain ⟨B0, p_state, a_state, w, rfl, m_state, P⟩ := h
    have w0 := w
    have hu := hu_of hr
    have hu64 := hu64_of hr
    have hr1 : Room 1 _ := hr.mono (by decide)
    refine ⟨_, (pss_cons (ps_set (i := 1) sc__law_great.nd rfl (by first | exact Or.inl rfl | exact Or.inr rfl) pe_int)
      (pss_cons (ps_for PassesOwn.never rfl (pi_range1 (by rfl) bI_range (pa_cons pe_int pa_nil)) (pg_name (i := 2) sc__law_great.nd rfl (by first | exact Or.inl rfl | exact Or.inr rfl)) (pss_one (ps_set (i := 1) sc__law_great.nd rfl (by first | exact Or.inl rfl | exact Or.inr rfl) (pe_op op_add (pe_op op_mul (pv 1) (pe_op op_pow pe_int pe_int)) (pe_call G__law_digit hr1 rfl g__law_digit k__law_digit b__law_digit .nil pass0 (pa_cons (pv 0) (pa_cons (pe_op op_add (pe_op op_pow pe_int pe_int) pe_int) pa_nil)))))))
      (pss_one (ps_ret (pe_op op_mulW (pv 1) (pe_ix (r := rIxL K) ix_list (pe_lst (pa_cons pe_int (pa_cons (pe_un un_neg pe_int) pa_nil))) (pe_call G__law_digit hr1 rfl g__law_digit k__law_digit b__law_digit .nil pass0 (pa_cons (pv 0) (pa_cons pe_int pa_nil))) (fun _ _ => rfl))))))), ?_⟩
    unfold l_great at P
    have st := Stp.refl (W := [p_state]) w
    refine h_set ?_
    refine h_c ?_
    refine h_seq ?_
    refine h_rng1 ?_
    refine h_cons ?_
    refine h_c ?_
    refine h_nil ?_
    have gz1 : (-(2 ^ 62) ≤ (4 : Int) ∧ (4 : Int) < 2 ^ 62) := by decide
    have wj3 := w
    have sj2 := Stp.refl (W := [p_state]) w
    refine h_forR1 P gz1 (fun (a : Int × (List Int)) σ' H' => ∃ (B' : Hp) (o__law_k : Option V), Stp [p_state] B0 H0 B' H' ∧ σ' = [some ((.ref p_state)), some (.int a.1), o__law_k] ∧ Mu K B' H' p_state (a.2.map enc)) ⟨_, _, sj2, rfl, m_state⟩ ?_ ?_
    · rintro N4 T5 x10 a9 _ H14 ⟨B13, o16, s15, rfl, m_state⟩ hlox10 hhix10 kk6 kr7 kb8 P
      replace st := st.go s15 (go1 (.inl (by simp)))
      replace w := s15.ok
      have sj2 := s15
      refine h_gname ?_
      refine h_set1 ?_
      refine h_op ?_
      refine h_op ?_
      refine h_var rfl ?_
      refine h_op (h_c (h_c (h_pow (k := 10000000000) (by decide +kernel) (by decide +kernel) ?_)))
      refine h_I (.inr ⟨by decide +kernel, by decide +kernel⟩) ?_
      refine h_call ?_
      refine h_cons ?_
      refine h_var rfl ?_
      refine h_cons ?_
      refine h_op ?_
      refine h_op (h_c (h_c (h_pow (k := 1000000000) (by decide +kernel) (by decide +kernel) ?_)))
      refine h_c ?_
      refine h_I0 ?_
      refine h_nil ?_
      refine ⟨B13, p_state, a9.2, (1000000000 + 7), w, rfl, m_state, (P.bind).mono (fun x17 P => ?_) (fun _ z => z)⟩
      refine fun v21 B18 H19 s20 m_state r22 => ?_
      replace st := st.go s20 (go1 (.inl (by simp)))
      replace sj2 := sj2.go s20 (go1 (.inl (by simp)))
      replace w := s20.ok
      cases r22
      refine h_I0 ?_
      replace P := P.lt
      generalize hx : ((a9.1 * 10000000000) + x17.1) = x23 at P ⊢
      refine h_nx ?_
      exact kk6 (x23, x17.2) _ _ ⟨_, _, sj2, rfl, m_state⟩ P.ok
    · rintro a24 _ H26 ⟨B25, o28, s27, rfl, m_state⟩ P
      replace st := st.go s27 (go1 (.inl (by simp)))
      replace w := s27.ok
      refine h_nx ?_
      refine h_ret ?_
      refine h_op ?_
      refine h_var rfl ?_
      refine h_op ?_
      refine h_lst ?_
      refine h_cons ?_
      refine h_c ?_
      refine h_cons ?_
      refine h_un ?_
      refine h_c ?_
      refine h_U ?_
      refine h_nil ?_
      refine h_newL w (ds := (([1, (-1)] : List Int)).map enc) (K := K) (.cons (Rep.int _) (.cons (Rep.int _) .nil)) (fun p29 B30 H31 s32 r33 => ?_) (by show 2 ≤ sizeLine; decide)
      replace m_state := m_state.step s32 nm0
      replace st := st.go s32 go0
      replace w := s32.ok
      replace r33 : Rep K B30 (.ref p29) (enc ([1, (-1)] : List Int)) := r33
      refine h_call ?_
      refine h_cons ?_
      refine h_var rfl ?_
      refine h_cons ?_
      refine h_c ?_
      refine h_nil ?_
      refine ⟨B30, p_state, a24.2, 2, w, rfl, m_state, (P.bind).mono (fun x34 P => ?_) (fun _ z => z)⟩
      refine fun v38 B35 H36 s37 m_state r39 => ?_
      replace r33 := r33.mono s37.ex
      replace st := st.go s37 (go1 (.inl (by simp)))
      replace w := s37.ok
      cases r39
      obtain ⟨p40, xs41, hv, hs42, hr43⟩ := Rep.sq w r33
      cases hv
      obtain ⟨x44, hx45, P⟩ := P.ix
      obtain ⟨u46, hu, r47⟩ := RepL.atE hr43 hx45
      refine h_ixL hs42 hu ?_
      cases r47
      obtain ⟨gd, P⟩ := P.guard
      refine h_I gd ?_
      exact P.ok _ _ _ st m_state (Rep.int _)
theorem ok__law_whole_right {f : Addr} {fd : FuncData} (F : Fun K "_law_whole_right" "_law_whole_right" s__law_whole_right f fd) {f__law_digit : Addr} {d__law_digit : FuncData} (g__law_digit : mg "_law_digit" = some (.ref f__law_digit)) (k__law_digit : PySem.W.keepIn K (.ref f__law_digit) = true) (b__law_digit : Binds K d__law_digit ["_law_state", "_law_base"] []) (G__law_digit : FnOk Pr wo K mg base CX0 1 f__law_digit d__law_digit ["_law_state", "_law_base"] (sp__law_digit K)) {f__law_great : Addr} {d__law_great : FuncData} (g__law_great : mg "_law_great" = some (.ref f__law_great)) (k__law_great : PySem.W.keepIn K (.ref f__law_great) = true) (b__law_great : Binds K d__law_great ["_law_state"] []) (G__law_great : FnOk Pr wo K mg base CX0 2 f__law_great d__law_great ["_law_state"] (sp__law_great K)) {f__law_truth : Addr} {d__law_truth : FuncData} (g__law_truth : mg "_law_truth" = some (.ref f__law_truth)) (k__law_truth : PySem.W.keepIn K (.ref f__law_truth) = true) (b__law_truth : Binds K d__law_truth ["_law_found", "_law_due"] []) (G__law_truth : FnOk Pr wo K mg base CX0 1 f__law_truth d__law_truth ["_law_found", "_law_due"] (sp__law_truth K)) {f_is_whole : Addr} {d_is_whole : FuncData} (g_is_whole : mg "is_whole" = some (.ref f_is_whole)) (k_is_whole : PySem.W.keepIn K (.ref f_is_whole) = true) (b_is_whole : Binds K d_is_whole ["thing", "low", "high"] []) (G_is_whole : FnOk Pr wo K mg base CX0 1 f_is_whole d_is_whole ["thing", "low", "high"] (sp_is_whole K)) (kb_is_whole_0_thing_low_high : KBinds K d_is_whole ["thing", "low", "high"] ["thing", "low", "high"] (fun us ws => match us, ws with | [], [w0, w1, w2] => [w0, w1, w2] | _, _ => []) (fun us ws => match us, ws with | [], [w0, w1, w2] => [w0, w1, w2] | _, _ => [])) (bI_str : mg "str" = none) : FnOk Pr wo K mg base CX0 3 f fd ["_law_state"] (sp__law_whole_right K) := by
  refine F.ok sc__law_whole_right (fun vs H Q E h => ?_) (fun cdv A outer s H0 vs Q E hr h => ?_)
  · obtain ⟨_, _, _, _, rfl, _⟩ := h; rfl
  · obtain ⟨B0, p_state, a_state, w, rfl, m_state, P⟩ := h
    have w0 := w
    have hu := hu_of hr
    have hu64 := hu64_of hr
    have hr1 : Room 1 _ := hr.mono (by decide)
    have hr2 : Room 2 _ := hr.mono (by decide)
    refine ⟨_, (pss_cons (ps_set (i := 1) sc__law_whole_right.nd rfl (by first | exact Or.inl rfl | exact Or.inr rfl) (pe_ix (r := rIxL K) ix_list (pe_lst (pa_cons pe_int (pa_cons pe_int (pa_cons (pe_call G__law_digit hr1 rfl g__law_digit k__law_digit b__law_digit .nil pass0 (pa_cons (pv 0) (pa_cons pe_int pa_nil))) (pa_cons (pe_call G__law_great hr2 rfl g__law_great k__law_great b__law_great .nil pass0 (pa_cons (pv 0) pa_nil)) pa_nil))))) (pe_call G__law_digit hr1 rfl g__law_digit k__law_digit b__law_digit .nil pass0 (pa_cons (pv 0) (pa_cons pe_int pa_nil))) (fun _ _ => rfl)))
      (pss_cons (ps_set (i := 2) sc__law_whole_right.nd rfl (by first | exact Or.inl rfl | exact Or.inr rfl) (pe_op op_add (pv 1) (pe_ix (r := rIxL K) ix_list (pe_lst (pa_cons pe_int (pa_cons pe_int (pa_cons pe_int (pa_cons (pe_call G__law_digit hr1 rfl g__law_digit k__law_digit b__law_digit .nil pass0 (pa_cons (pv 0) (pa_cons (pe_op op_pow pe_int pe_int) pa_nil))) (pa_cons (pe_un un_neg pe_int) pa_nil)))))) (pe_call G__law_digit hr1 rfl g__law_digit k__law_digit b__law_digit .nil pass0 (pa_cons (pv 0) (pa_cons pe_int pa_nil))) (fun _ _ => rfl))))
      (pss_cons (ps_set (i := 3) sc__law_whole_right.nd rfl (by first | exact Or.inl rfl | exact Or.inr rfl) (pe_lst (pa_cons (pv 1) (pa_cons (pv 2) (pa_cons (pe_op op_sub (pv 1) pe_int) (pa_cons (pe_op op_add (pv 2) pe_int) (pa_cons (pe_op op_add (pv 1) (pe_op op_fdiv (pe_op op_sub (pv 2) (pv 1)) pe_int)) (pa_cons (pe_op op_sub pe_int (pv 1)) (pa_cons (pe_call G__law_great hr2 rfl g__law_great k__law_great b__law_great .nil pass0 (pa_cons (pv 0) pa_nil)) pa_nil)))))))))
      (pss_cons (ps_set (i := 4) sc__law_whole_right.nd rfl (by first | exact Or.inl rfl | exact Or.inr rfl) (pe_ix (r := rIxL K) ix_list (pv 3) (pe_call G__law_digit hr1 rfl g__law_digit k__law_digit b__law_digit .nil pass0 (pa_cons (pv 0) (pa_cons pe_int pa_nil))) (fun _ _ => rfl)))
      (pss_cons (ps_if (pt_not (pt_val (pe_call G__law_truth hr1 rfl g__law_truth k__law_truth b__law_truth .nil pass0 (pa_cons (pe_call G_is_whole hr1 rfl g_is_whole k_is_whole b_is_whole .nil pass0 (pa_cons (pv 4) (pa_cons (pv 1) (pa_cons (pv 2) pa_nil)))) (pa_cons (pe_chain op_le op_le (pv 1) (pv 4) (pv 2)) pa_nil))))) (pss_one (ps_ret pe_bl)) pss_nil)
      (pss_cons (ps_set (i := 5) sc__law_whole_right.nd rfl (by first | exact Or.inl rfl | exact Or.inr rfl) (pe_lst (pa_cons pe_bl (pa_cons pe_bl (pa_cons pe_non (pa_cons (pe_callTy cr_str (by rfl) bI_str Y.boot_str (pa_cons (pe_op op_mod (pv 1) pe_int) pa_nil)) (pa_cons (pe_tup (pa_cons (pv 1) pa_nil)) (pa_cons (pe_lst (pa_cons (pv 1) pa_nil)) (pa_cons (pe_disp (pps_cons (pv 1) (pv 1) pps_nil) rfl rfl (by simp) (by show 1 ≤ 15; decide)) (pa_cons pe_str (pa_cons (pe_tup (pa_cons (pv 1) (pa_cons (pv 2) pa_nil))) pa_nil)))))))))))
      (pss_cons (ps_set (i := 6) sc__law_whole_right.nd rfl (by first | exact Or.inl rfl | exact Or.inr rfl) (pe_ix (r := rIxL K) ix_list (pv 5) (pe_call G__law_digit hr1 rfl g__law_digit k__law_digit b__law_digit .nil pass0 (pa_cons (pv 0) (pa_cons pe_int pa_nil))) (fun _ _ => rfl)))
      (pss_one (ps_ret (pe_and (pe_cmpR op_isBl (pe_call G_is_whole hr1 rfl g_is_whole k_is_whole b_is_whole .nil pass0 (pa_cons (pv 6) (pa_cons (pv 1) (pa_cons (pv 2) pa_nil)))) pe_bl (nomark _)) (pe_one (pe_cmpR op_isBl (pe_callK0 G_is_whole hr1 rfl g_is_whole k_is_whole kb_is_whole_0_thing_low_high pass0 (pk_cons (pv 6) (pk_cons pe_int (pk_cons pe_int pk_nil)))) pe_bl (nomark _))))))))))))), ?_⟩
    unfold l_whole_right at P
    have st := Stp.refl (W := [p_state]) w
    refine h_set ?_
    refine h_op ?_
    refine h_lst ?_
    refine h_cons ?_
    refine h_c ?_
    refine h_cons ?_
    refine h_c ?_
    refine h_cons ?_
    refine h_call ?_
    refine h_cons ?_
    refine h_var rfl ?_
    refine h_cons ?_
    refine h_c ?_
    refine h_nil ?_
    refine ⟨B0, p_state, a_state, 300, w, rfl, m_state, (P.bind).mono (fun x1 P => ?_) (fun _ z => z)⟩
    refine fun v5 B2 H3 s4 m_state r6 => ?_
    replace st := st.go s4 (go1 (.inl (by simp)))
    replace w := s4.ok
    cases r6
    refine h_cons ?_
    refine h_call ?_
    refine h_cons ?_
    refine h_var rfl ?_
    refine h_nil ?_
    refine ⟨B2, p_state, x1.2, w, rfl, m_state, (P.bind).mono (fun x7 P => ?_) (fun _ z => z)⟩
    refine fun v11 B8 H9 s10 m_state r12 => ?_
    replace st := st.go s10 (go1 (.inl (by simp)))
    replace w := s10.ok
    cases r12
    refine h_nil ?_
    refine h_newL w (ds := (([0, 1, x1.1, x7.1] : List Int)).map enc) (K := K) (.cons (Rep.int _) (.cons (Rep.int _) (.cons (Rep.int _) (.cons (Rep.int _) .nil)))) (fun p13 B14 H15 s16 r17 => ?_) (by show 4 ≤ sizeLine; decide)
    replace m_state := m_state.step s16 nm0
    replace st := st.go s16 go0
    replace w := s16.ok
    replace r17 : Rep K B14 (.ref p13) (enc ([0, 1, x1.1, x7.1] : List Int)) := r17
    refine h_call ?_
    refine h_cons ?_
    refine h_var rfl ?_
    refine h_cons ?_
    refine h_c ?_
    refine h_nil ?_
    refine ⟨B14, p_state, x7.2, 4, w, rfl, m_state, (P.bind).mono (fun x18 P => ?_) (fun _ z => z)⟩
    refine fun v22 B19 H20 s21 m_state r23 => ?_
    replace r17 := r17.mono s21.ex
    replace st := st.go s21 (go1 (.inl (by simp)))
    replace w := s21.ok
    cases r23
    obtain ⟨p24, xs25, hv, hs26, hr27⟩ := Rep.sq w r17
    cases hv
    obtain ⟨x28, hx29, P⟩ := P.ix
    obtain ⟨u30, hu, r31⟩ := RepL.atE hr27 hx29
    refine h_ixL hs26 hu ?_
    cases r31
    refine h_set ?_
    refine h_op ?_
    refine h_var rfl ?_
    refine h_op ?_
    refine h_lst ?_
    refine h_cons ?_
    refine h_c ?_
    refine h_cons ?_
    refine h_c ?_
    refine h_cons ?_
    refine h_c ?_
    refine h_cons ?_
    refine h_call ?_
    refine h_cons ?_
    refine h_var rfl ?_
    refine h_cons ?_
    refine h_op (h_c (h_c (h_pow (k := 1000000) (by decide +kernel) (by decide +kernel) ?_)))
    refine h_nil ?_
    refine ⟨B19, p_state, x18.2, 1000000, w, rfl, m_state, (P.bind).mono (fun x32 P => ?_) (fun _ z => z)⟩
    refine fun v36 B33 H34 s35 m_state r37 => ?_
    replace st := st.go s35 (go1 (.inl (by simp)))
    replace w := s35.ok
    cases r37
    refine h_cons ?_
    refine h_un ?_
    refine h_c ?_
    refine h_U ?_
    refine h_nil ?_
    refine h_newL w (ds := (([0, 1, 255, x32.1, (-1)] : List Int)).map enc) (K := K) (.cons (Rep.int _) (.cons (Rep.int _) (.cons (Rep.int _) (.cons (Rep.int _) (.cons (Rep.int _) .nil))))) (fun p38 B39 H40 s41 r42 => ?_) (by show 5 ≤ sizeLine; decide)
    replace m_state := m_state.step s41 nm0
    replace st := st.go s41 go0
    replace w := s41.ok
    replace r42 : Rep K B39 (.ref p38) (enc ([0, 1, 255, x32.1, (-1)] : List Int)) := r42
    refine h_call ?_
    refine h_cons ?_
    refine h_var rfl ?_
    refine h_cons ?_
    refine h_c ?_
    refine h_nil ?_
    refine ⟨B39, p_state, x32.2, 5, w, rfl, m_state, (P.bind).mono (fun x43 P => ?_) (fun _ z => z)⟩
    refine fun v47 B44 H45 s46 m_state r48 => ?_
    replace r42 := r42.mono s46.ex
    replace st := st.go s46 (go1 (.inl (by simp)))
    replace w := s46.ok
    cases r48
    obtain ⟨p49, xs50, hv, hs51, hr52⟩ := Rep.sq w r42
    cases hv
    obtain ⟨x53, hx54, P⟩ := P.ix
    obtain ⟨u55, hu, r56⟩ := RepL.atE hr52 hx54
    refine h_ixL hs51 hu ?_
    cases r56
    refine h_I0 ?_
    replace P := P.lt
    generalize hx : (x28 + x53) = x57 at P ⊢
    refine h_set ?_
    refine h_lst ?_
    refine h_cons ?_
    refine h_var rfl ?_
    refine h_cons ?_
    refine h_var rfl ?_
    refine h_cons ?_
    refine h_op ?_
    refine h_var rfl ?_
    refine h_c ?_
    refine h_I0 ?_
    refine h_cons ?_
    refine h_op ?_
    refine h_var rfl ?_
    refine h_c ?_
    refine h_I0 ?_
    refine h_cons ?_
    refine h_op ?_
    refine h_var rfl ?_
    refine h_op ?_
    refine h_op ?_
    refine h_var rfl ?_
    refine h_var rfl ?_
    refine h_I0 ?_
    refine h_c ?_
    refine h_I ⟨by decide +kernel, by decide +kernel⟩ ?_
    refine h_I0 ?_
    refine h_cons ?_
    refine h_op ?_
    refine h_c ?_
    refine h_var rfl ?_
    refine h_I0 ?_
    refine h_cons ?_
    refine h_call ?_
    refine h_cons ?_
    refine h_var rfl ?_
    refine h_nil ?_
    refine ⟨B44, p_state, x43.2, w, rfl, m_state, (P.bind).mono (fun x58 P => ?_) (fun _ z => z)⟩
    refine fun v62 B59 H60 s61 m_state r63 => ?_
    replace st := st.go s61 (go1 (.inl (by simp)))
    replace w := s61.ok
    cases r63
    refine h_nil ?_
    refine h_newL w (ds := (([x28, x57, (x28 - 1), (x57 + 1), (x28 + ((x57 - x28) / 2)), (0 - x28), x58.1] : List Int)).map enc) (K := K) (.cons (Rep.int _) (.cons (Rep.int _) (.cons (Rep.int _) (.cons (Rep.int _) (.cons (Rep.int _) (.cons (Rep.int _) (.cons (Rep.int _) .nil))))))) (fun p64 B65 H66 s67 r68 => ?_) (by show 7 ≤ sizeLine; decide)
    replace m_state := m_state.step s67 nm0
    replace st := st.go s67 go0
    replace w := s67.ok
    replace r68 : Rep K B65 (.ref p64) (enc ([x28, x57, (x28 - 1), (x57 + 1), (x28 + ((x57 - x28) / 2)), (0 - x28), x58.1] : List Int)) := r68
    refine h_set ?_
    refine h_op ?_
    refine h_var rfl ?_
    refine h_call ?_
    refine h_cons ?_
    refine h_var rfl ?_
    refine h_cons ?_
    refine h_c ?_
    refine h_nil ?_
    refine ⟨B65, p_state, x58.2, 7, w, rfl, m_state, (P.bind).mono (fun x69 P => ?_) (fun _ z => z)⟩
    refine fun v73 B70 H71 s72 m_state r74 => ?_
    replace r68 := r68.mono s72.ex
    replace st := st.go s72 (go1 (.inl (by simp)))
    replace w := s72.ok
    cases r74
    obtain ⟨p75, xs76, hv, hs77, hr78⟩ := Rep.sq w r68
    cases hv
    obtain ⟨x79, hx80, P⟩ := P.ix
    obtain ⟨u81, hu, r82⟩ := RepL.atE hr78 hx80
    refine h_ixL hs77 hu ?_
    cases r82
    refine h_seq <| h_if ?_
    refine h_tnot ?_
    refine h_tB ?_
    refine h_call ?_
    refine h_cons ?_
    refine h_call ?_
    refine h_cons ?_
    refine h_var rfl ?_
    refine h_cons ?_
    refine h_var rfl ?_
    refine h_cons ?_
    refine h_var rfl ?_
    refine h_nil ?_
    refine ⟨B70, .int x79, (enc (x79 : Int)), x28, x57, w, rfl, (Rep.int _), (P.bind).mono (fun x83 P => ?_) (fun _ z => z)⟩
    refine fun v87 B84 H85 s86 r88 => ?_
    replace m_state := m_state.step s86 nm0
    replace r68 := r68.mono s86.ex
    replace st := st.go s86 go0
    replace w := s86.ok
    cases r88
    refine h_cons ?_
    refine h_chain ?_
    refine h_var rfl ?_
    refine h_var rfl ?_
    refine h_ch (k := x57) (fun Q89 q90 => ?_) ?_
    · skip
      refine h_var rfl ?_
      exact q90
    refine h_nil ?_
    refine ⟨B84, x83, ((decide (x28 ≤ x79)) && (decide (x79 ≤ x57))), w, rfl, (P.bind).mono (fun x91 P => ?_) (fun _ z => z)⟩
    refine fun v95 B92 H93 s94 r96 => ?_
    replace m_state := m_state.step s94 nm0
    replace r68 := r68.mono s94.ex
    replace st := st.go s94 go0
    replace w := s94.ok
    cases r96
    refine h_bl ?_
    refine h_iteN (fun c1 => ?_) (fun c1 => ?_)
    · replace P := P.iteF c1
      refine h_ret ?_
      refine h_c ?_
      exact P.ok _ _ _ st m_state (Rep.bl _)
    · replace P := P.iteT c1
      refine h_next ?_
      refine h_nx ?_
      refine h_set ?_
      refine h_lst ?_
      refine h_cons ?_
      refine h_c ?_
      refine h_cons ?_
      refine h_c ?_
      refine h_cons ?_
      refine h_c ?_
      refine h_cons ?_
      refine h_cb ?_
      refine h_cons ?_
      refine h_op ?_
      refine h_var rfl ?_
      refine h_c ?_
      refine h_I (by decide +kernel) ?_
      refine h_nil ?_
      obtain ⟨gd, P⟩ := P.guard
      refine h_str gd ?_
      refine h_cons ?_
      refine h_tup ?_
      refine h_cons ?_
      refine h_var rfl ?_
      refine h_nil ?_
      refine h_newT w (K := K) (.cons (Rep.int _) .nil) (fun p97 B98 H99 s100 r101 => ?_) (by show 1 ≤ sizeLine; decide)
      replace m_state := m_state.step s100 nm0
      replace r68 := r68.mono s100.ex
      replace st := st.go s100 go0
      replace w := s100.ok
      replace r101 : Rep K B98 (.ref p97) (enc (⟨x28⟩ : (Tp1 Int))) := r101
      refine h_cons ?_
      refine h_lst ?_
      refine h_cons ?_
      refine h_var rfl ?_
      refine h_nil ?_
      refine h_newL w (ds := (([x28] : List Int)).map enc) (K := K) (.cons (Rep.int _) .nil) (fun p102 B103 H104 s105 r106 => ?_) (by show 1 ≤ sizeLine; decide)
      replace m_state := m_state.step s105 nm0
      replace r68 := r68.mono s105.ex
      replace r101 := r101.mono s105.ex
      replace st := st.go s105 go0
      replace w := s105.ok
      replace r106 : Rep K B103 (.ref p102) (enc ([x28] : List Int)) := r106
      refine h_cons ?_
      refine h_disp1I (K := K) (i := x28) (v := .int x28) (fun _ _ q => h_var rfl q) (fun _ _ q => h_var rfl q) w (Rep.int _) (fun p107 B108 H109 s110 r111 => ?_)
      replace m_state := m_state.step s110 nm0
      replace r68 := r68.mono s110.ex
      replace r101 := r101.mono s110.ex
      replace r106 := r106.mono s110.ex
      replace st := st.go s110 go0
      replace w := s110.ok
      refine h_cons ?_
      refine h_c ?_
      refine h_cons ?_
      refine h_tup ?_
      refine h_cons ?_
      refine h_var rfl ?_
      refine h_cons ?_
      refine h_var rfl ?_
      refine h_nil ?_
      refine h_newT w (K := K) (.cons (Rep.int _) (.cons (Rep.int _) .nil)) (fun p112 B113 H114 s115 r116 => ?_) (by show 2 ≤ sizeLine; decide)
      replace m_state := m_state.step s115 nm0
      replace r68 := r68.mono s115.ex
      replace r101 := r101.mono s115.ex
      replace r106 := r106.mono s115.ex
      replace r111 := r111.mono s115.ex
      replace st := st.go s115 go0
      replace w := s115.ok
      replace r116 : Rep K B113 (.ref p112) (enc (⟨x28, x57⟩ : (Tp2 Int Int))) := r116
      refine h_nil ?_
      refine h_newL w (ds := (([(enc true), (enc false), (enc ()), (enc (toString (x28 % 1000) : Str)), (enc (⟨x28⟩ : (Tp1 Int))), (enc ([x28] : List Int)), (.dic [(.inl x28, (enc (x28 : Int)))] : D), (enc ("" : Str)), (enc (⟨x28, x57⟩ : (Tp2 Int Int)))] : List D)).map enc) (K := K) (.cons (Rep.bl _) (.cons (Rep.bl _) (.cons Rep.non (.cons (Rep.str _) (.cons r101 (.cons r106 (.cons r111 (.cons (Rep.str _) (.cons r116 .nil))))))))) (fun p117 B118 H119 s120 r121 => ?_) (by show 9 ≤ sizeLine; decide)
      replace m_state := m_state.step s120 nm0
      replace r68 := r68.mono s120.ex
      replace st := st.go s120 go0
      replace w := s120.ok
      replace r121 : Rep K B118 (.ref p117) (enc ([(enc true), (enc false), (enc ()), (enc (toString (x28 % 1000) : Str)), (enc (⟨x28⟩ : (Tp1 Int))), (enc ([x28] : List Int)), (.dic [(.inl x28, (enc (x28 : Int)))] : D), (enc ("" : Str)), (enc (⟨x28, x57⟩ : (Tp2 Int Int)))] : List D)) := r121
      refine h_set ?_
      refine h_op ?_
      refine h_var rfl ?_
      refine h_call ?_
      refine h_cons ?_
      refine h_var rfl ?_
      refine h_cons ?_
      refine h_c ?_
      refine h_nil ?_
      refine ⟨B118, p_state, x69.2, 9, w, rfl, m_state, (P.bind).mono (fun x122 P => ?_) (fun _ z => z)⟩
      refine fun v126 B123 H124 s125 m_state r127 => ?_
      replace r68 := r68.mono s125.ex
      replace r121 := r121.mono s125.ex
      replace st := st.go s125 (go1 (.inl (by simp)))
      replace w := s125.ok
      cases r127
      obtain ⟨p128, xs129, hv, hs130, hr131⟩ := Rep.sq w r121
      cases hv
      obtain ⟨x132, hx133, P⟩ := P.ix
      obtain ⟨u134, hu, r135⟩ := RepL.atE hr131 hx133
      refine h_ixL hs130 hu ?_
      refine h_ret ?_
      refine h_and ?_
      refine h_op ?_
      refine h_call ?_
      refine h_cons ?_
      refine h_var rfl ?_
      refine h_cons ?_
      refine h_var rfl ?_
      refine h_cons ?_
      refine h_var rfl ?_
      refine h_nil ?_
      refine ⟨B123, u134, x132, x28, x57, w, rfl, r135, (P.bind).mono (fun x136 P => ?_) (fun _ z => z)⟩
      refine fun v140 B137 H138 s139 r141 => ?_
      replace m_state := m_state.step s139 nm0
      replace r68 := r68.mono s139.ex
      replace r121 := r121.mono s139.ex
      replace r135 := r135.mono s139.ex
      replace st := st.go s139 go0
      replace w := s139.ok
      cases r141
      refine h_c ?_
      refine h_isB ?_
      refine h_bl ?_
      refine h_ite (fun c1 => ?_) (fun c1 => ?_)
      · replace P := P.iteT c1
        refine h_op ?_
        refine h_callK0 ?_
        refine h_cons ?_
        refine h_var rfl ?_
        refine h_cons ?_
        refine h_c ?_
        refine h_cons ?_
        refine h_c ?_
        refine h_nil ?_
        refine ⟨B137, u134, x132, 0, 1, w, rfl, r135, (P.bind).mono (fun x142 P => ?_) (fun _ z => z)⟩
        refine fun v146 B143 H144 s145 r147 => ?_
        replace m_state := m_state.step s145 nm0
        replace r68 := r68.mono s145.ex
        replace r121 := r121.mono s145.ex
        replace r135 := r135.mono s145.ex
        replace st := st.go s145 go0
        replace w := s145.ok
        cases r147
        refine h_c ?_
        refine h_isB ?_
        exact P.ok _ _ _ st m_state (Rep.bl _)
      · replace P := P.iteF c1
        exact P.ok _ _ _ st m_state (Rep.bl _)
theorem ok__law_row {f : Addr} {fd : FuncData} (F : Fun K "_law_row" "_law_row" s__law_row f fd) {f__law_digit : Addr} {d__law_digit : FuncData} (g__law_digit : mg "_law_digit" = some (.ref f__law_digit)) (k__law_digit : PySem.W.keepIn K (.ref f__law_digit) = true) (b__law_digit : Binds K d__law_digit ["_law_state", "_law_base"] []) (G__law_digit : FnOk Pr wo K mg base CX0 1 f__law_digit d__law_digit ["_law_state", "_law_base"] (sp__law_digit K)) (bI_range : mg "range" = none) : FnOk Pr wo K mg base CX0 2 f fd ["_law_state"] (sp__law_row K) := by
  refine F.ok sc__law_row (fun vs H Q E h => ?_) (fun cdv A outer s H0 vs Q E hr h => ?_)
  · obtain ⟨_, _, _, _, rfl, _⟩ := h; rfl
  · obtain ⟨B0, p_state, a_state, w, rfl, m_state, P⟩ := h
    have w0 := w
    have hu := hu_of hr
    have hu64 := hu64_of hr
    have hr1 : Room 1 _ := hr.mono (by decide)
    refine ⟨_, (pss_cons (ps_set (i := 1) sc__law_row.nd rfl (by first | exact Or.inl rfl | exact Or.inr rfl) (pe_ix (r := rIxL K) ix_list (pe_lst (pa_cons pe_int (pa_cons pe_int (pa_cons (pe_call G__law_digit hr1 rfl g__law_digit k__law_digit b__law_digit .nil pass0 (pa_cons (pv 0) (pa_cons pe_int pa_nil))) (pa_cons (pe_call G__law_digit hr1 rfl g__law_digit k__law_digit b__law_digit .nil pass0 (pa_cons (pv 0) (pa_cons pe_int pa_nil))) pa_nil))))) (pe_call G__law_digit hr1 rfl g__law_digit k__law_digit b__law_digit .nil pass0 (pa_cons (pv 0) (pa_cons pe_int pa_nil))) (fun _ _ => rfl)))
      (pss_one (ps_ret (pe_lc (own := [("_law_k", 2)]) rfl sc__law_row.nd (pi_range1 (by rfl) bI_range (pa_cons (pv 1) pa_nil)) (blkOk_by (N := ["_law_state", "_law_many", "_law_k"]) (sc := defScope s__law_row) (by decide +kernel)) (fun _ _ _ _ _ => (pg_name (i := 2) sc__law_row.nd rfl (by first | exact Or.inl rfl | exact Or.inr rfl))) (fun _ _ _ _ _ => pts_nil) (fun _ _ _ _ _ => (pe_ix (r := rIxL K) ix_list (pe_lst (pa_cons (pe_call G__law_digit hr1 rfl g__law_digit k__law_digit b__law_digit .nil pass0 (pa_cons (pv 0) (pa_cons pe_int pa_nil))) (pa_cons (pe_op op_mul pe_int (pe_call G__law_digit hr1 rfl g__law_digit k__law_digit b__law_digit .nil pass0 (pa_cons (pv 0) (pa_cons pe_int pa_nil)))) pa_nil))) (pe_op op_fdiv (pe_call G__law_digit hr1 rfl g__law_digit k__law_digit b__law_digit .nil pass0 (pa_cons (pv 0) (pa_cons pe_int pa_nil))) pe_int) (fun _ _ => rfl))))))), ?_⟩
    unfold l_row at P
    have st := Stp.refl (W := [p_state]) w
    refine h_set ?_
    refine h_op ?_
    refine h_lst ?_
    refine h_cons ?_
    refine h_c ?_
    refine h_cons ?_
    refine h_c ?_
    refine h_cons ?_
    refine h_call ?_
    refine h_cons ?_
    refine h_var rfl ?_
    refine h_cons ?_
    refine h_c ?_
    refine h_nil ?_
    refine ⟨B0, p_state, a_state, 8, w, rfl, m_state, (P.bind).mono (fun x1 P => ?_) (fun _ z => z)⟩
    refine fun v5 B2 H3 s4 m_state r6 => ?_
    replace st := st.go s4 (go1 (.inl (by simp)))
    replace w := s4.ok
    cases r6
    refine h_cons ?_
    refine h_call ?_
    refine h_cons ?_
    refine h_var rfl ?_
    refine h_cons ?_
    refine h_c ?_
    refine h_nil ?_
    refine ⟨B2, p_state, x1.2, 61, w, rfl, m_state, (P.bind).mono (fun x7 P => ?_) (fun _ z => z)⟩
    refine fun v11 B8 H9 s10 m_state r12 => ?_
    replace st := st.go s10 (go1 (.inl (by simp)))
    replace w := s10.ok
    cases r12
    refine h_nil ?_
    refine h_newL w (ds := (([0, 1, x1.1, x7.1] : List Int)).map enc) (K := K) (.cons (Rep.int _) (.cons (Rep.int _) (.cons (Rep.int _) (.cons (Rep.int _) .nil)))) (fun p13 B14 H15 s16 r17 => ?_) (by show 4 ≤ sizeLine; decide)
    replace m_state := m_state.step s16 nm0
    replace st := st.go s16 go0
    replace w := s16.ok
    replace r17 : Rep K B14 (.ref p13) (enc ([0, 1, x1.1, x7.1] : List Int)) := r17
    refine h_call ?_
    refine h_cons ?_
    refine h_var rfl ?_
    refine h_cons ?_
    refine h_c ?_
    refine h_nil ?_
    refine ⟨B14, p_state, x7.2, 4, w, rfl, m_state, (P.bind).mono (fun x18 P => ?_) (fun _ z => z)⟩
    refine fun v22 B19 H20 s21 m_state r23 => ?_
    replace r17 := r17.mono s21.ex
    replace st := st.go s21 (go1 (.inl (by simp)))
    replace w := s21.ok
    cases r23
    obtain ⟨p24, xs25, hv, hs26, hr27⟩ := Rep.sq w r17
    cases hv
    obtain ⟨x28, hx29, P⟩ := P.ix
    obtain ⟨u30, hu, r31⟩ := RepL.atE hr27 hx29
    refine h_ixL hs26 hu ?_
    cases r31
    refine h_ret ?_
    refine h_lcR1E ?_
    refine h_cons ?_
    refine h_var rfl ?_
    refine h_nil ?_
    obtain ⟨gz32, P⟩ := P.guard
    refine h_lcR1 P (fun Dl (acc : List Int) (a : (List Int)) H' => ∃ B', Stp [p_state] B19 H20 B' H' ∧ H20 Dl = none ∧ Mu K B' H' Dl (acc.map enc) ∧ p_state ≠ Dl ∧ Mu K B' H' p_state (a.map enc)) (fun Dl hD => ⟨_, Stp.newM w hD, hD, Mu.new w hD .nil, Mu.ne m_state hD, m_state.step (Stp.newM (W := []) w hD) nm0⟩) ?_ ?_ gz32
    · rintro Dl33 N34 T35 x36 acc39 a40 H41 ⟨B42, s43, hD44, m45, ne49, m_state⟩ hlox36 hhix36 hz46 kk47 kn48 P
      have wj51 := w
      have sj50 := s43
      have n52 := st.nn hD44
      replace st := st.go s43 (go1 (.inl (by simp)))
      replace w := s43.ok
      refine h_gname ?_
      refine h_lcT rfl ?_
      refine h_op ?_
      refine h_lst ?_
      refine h_cons ?_
      refine h_call ?_
      refine h_cons ?_
      refine h_var rfl ?_
      refine h_cons ?_
      refine h_c ?_
      refine h_nil ?_
      refine ⟨B42, p_state, a40, 256, w, rfl, m_state, (P.bind).mono (fun x53 P => ?_) (fun _ z => z)⟩
      refine fun v57 B54 H55 s56 m_state r58 => ?_
      replace m45 := m45.step s56 (nm1 ne49.symm)
      replace st := st.go s56 (go1 (.inl (by simp)))
      replace sj50 := sj50.go s56 (go1 (.inl (by simp)))
      replace w := s56.ok
      cases r58
      refine h_cons ?_
      refine h_op ?_
      refine h_c ?_
      refine h_call ?_
      refine h_cons ?_
      refine h_var rfl ?_
      refine h_cons ?_
      refine h_c ?_
      refine h_nil ?_
      refine ⟨B54, p_state, x53.2, 2, w, rfl, m_state, (P.bind).mono (fun x59 P => ?_) (fun _ z => z)⟩
      refine fun v63 B60 H61 s62 m_state r64 => ?_
      replace m45 := m45.step s62 (nm1 ne49.symm)
      replace st := st.go s62 (go1 (.inl (by simp)))
      replace sj50 := sj50.go s62 (go1 (.inl (by simp)))
      replace w := s62.ok
      cases r64
      refine h_I (.inl ⟨by decide +kernel, by decide +kernel⟩) ?_
      refine h_nil ?_
      refine h_newL w (ds := (([x53.1, (255 * x59.1)] : List Int)).map enc) (K := K) (.cons (Rep.int _) (.cons (Rep.int _) .nil)) (fun p65 B66 H67 s68 r69 => ?_) (by show 2 ≤ sizeLine; decide)
      replace m_state := m_state.step s68 nm0
      replace m45 := m45.step s68 nm0
      replace st := st.go s68 go0
      replace sj50 := sj50.go s68 go0
      replace w := s68.ok
      replace r69 : Rep K B66 (.ref p65) (enc ([x53.1, (255 * x59.1)] : List Int)) := r69
      refine h_op ?_
      refine h_call ?_
      refine h_cons ?_
      refine h_var rfl ?_
      refine h_cons ?_
      refine h_c ?_
      refine h_nil ?_
      refine ⟨B66, p_state, x59.2, 4, w, rfl, m_state, (P.bind).mono (fun x70 P => ?_) (fun _ z => z)⟩
      refine fun v74 B71 H72 s73 m_state r75 => ?_
      replace m45 := m45.step s73 (nm1 ne49.symm)
      replace r69 := r69.mono s73.ex
      replace st := st.go s73 (go1 (.inl (by simp)))
      replace sj50 := sj50.go s73 (go1 (.inl (by simp)))
      replace w := s73.ok
      cases r75
      refine h_c ?_
      refine h_I ⟨by decide +kernel, by decide +kernel⟩ ?_
      obtain ⟨p76, xs77, hv, hs78, hr79⟩ := Rep.sq w r69
      cases hv
      obtain ⟨x80, hx81, P⟩ := P.ix
      obtain ⟨u82, hu, r83⟩ := RepL.atE hr79 hx81
      refine h_ixL hs78 hu ?_
      cases r83
      refine h_app (b := x80) w m45 (Rep.int _) hz46 (fun H84 s85 m45 => ?_)
      replace m_state := m_state.step s85 (nm1 ne49)
      replace st := st.go s85 (go1 (.inr n52))
      replace sj50 := sj50.go s85 (go1 (.inr hD44))
      replace w := s85.ok
      exact kk47 x80 x70.2 _ ⟨_, sj50, hD44, m45, ne49, m_state⟩ P.ok
    · rintro Dl33 acc39 a40 H41 ⟨B42, s43, hD44, m45, ne49, m_state⟩ P
      have n86 := st.nn hD44
      replace st := st.go s43 (go1 (.inl (by simp)))
      replace w := s43.ok
      replace P := P.un2
      obtain ⟨B91, e87, k88, g89, r90⟩ := Mu.keep m45
      replace st := g89 _ _ _ st w0 n86
      replace m_state := m_state.kp e87 k88 ne49
      replace w := st.ok
      replace r90 : Rep K B91 (.ref Dl33) (enc acc39) := r90
      exact P.ok _ _ _ st m_state r90
theorem ok__law_rows_right {f : Addr} {fd : FuncData} (F : Fun K "_law_rows_right" "_law_rows_right" s__law_rows_right f fd) {f__law_row : Addr} {d__law_row : FuncData} (g__law_row : mg "_law_row" = some (.ref f__law_row)) (k__law_row : PySem.W.keepIn K (.ref f__law_row) = true) (b__law_row : Binds K d__law_row ["_law_state"] []) (G__law_row : FnOk Pr wo K mg base CX0 2 f__law_row d__law_row ["_law_state"] (sp__law_row K)) {f__law_digit : Addr} {d__law_digit : FuncData} (g__law_digit : mg "_law_digit" = some (.ref f__law_digit)) (k__law_digit : PySem.W.keepIn K (.ref f__law_digit) = true) (b__law_digit : Binds K d__law_digit ["_law_state", "_law_base"] []) (G__law_digit : FnOk Pr wo K mg base CX0 1 f__law_digit d__law_digit ["_law_state", "_law_base"] (sp__law_digit K)) {f__law_truth : Addr} {d__law_truth : FuncData} (g__law_truth : mg "_law_truth" = some (.ref f__law_truth)) (k__law_truth : PySem.W.keepIn K (.ref f__law_truth) = true) (b__law_truth : Binds K d__law_truth ["_law_found", "_law_due"] []) (G__law_truth : FnOk Pr wo K mg base CX0 1 f__law_truth d__law_truth ["_law_found", "_law_due"] (sp__law_truth K)) {f_is_bytes : Addr} {d_is_bytes : FuncData} (g_is_bytes : mg "is_bytes" = some (.ref f_is_bytes)) (k_is_bytes : PySem.W.keepIn K (.ref f_is_bytes) = true) (b_is_bytes : Binds K d_is_bytes ["thing"] []) (G_is_bytes : FnOk Pr wo K mg base CX0 2 f_is_bytes d_is_bytes ["thing"] (sp_is_bytes K)) {f__law_great : Addr} {d__law_great : FuncData} (g__law_great : mg "_law_great" = some (.ref f__law_great)) (k__law_great : PySem.W.keepIn K (.ref f__law_great) = true) (b__law_great : Binds K d__law_great ["_law_state"] []) (G__law_great : FnOk Pr wo K mg base CX0 2 f__law_great d__law_great ["_law_state"] (sp__law_great K)) (bI_list : mg "list" = none) (bI_isinstance : mg "isinstance" = none) (bI_int : mg "int" = none) (bI_abs : mg "abs" = none) (bI_len : mg "len" = none) (bI_tuple : mg "tuple" = none) (bI_dict : mg "dict" = none) (bI_bool : mg "bool" = none) : FnOk Pr wo K mg base CX0 3 f fd ["_law_state"] (sp__law_rows_right K) := by
  refine F.ok sc__law_rows_right (fun vs H Q E h => ?_) (fun cdv A outer s H0 vs Q E hr h => ?_)
  · obtain ⟨_, _, _, _, rfl, _⟩ := h; rfl
  · obtain ⟨B0, p_state, a_state, w, rfl, m_state, P⟩ := h
    have w0 := w
    have hu := hu_of hr
    have hu64 := hu64_of hr
    have hr1 : Room 1 _ := hr.mono (by decide)
    have hr2 : Room 2 _ := hr.mono (by decide)
    refine ⟨_, (pss_cons (ps_set (i := 1) sc__law_rows_right.nd rfl (by first | exact Or.inl rfl | exact Or.inr rfl) (pe_call G__law_row hr2 rfl g__law_row k__law_row b__law_row .nil pass0 (pa_cons (pv 0) pa_nil)))
      (pss_cons (ps_set (i := 2) sc__law_rows_right.nd rfl (by first | exact Or.inl rfl | exact Or.inr rfl) (pe_callTy (r := rListY K) cr_list (by rfl) bI_list Y.boot_list (pa_cons (pv 1) pa_nil)))
      (pss_cons (ps_if (PW.pt (pw_or (pt_cmpR op_notBl (pe_call G_is_bytes hr2 rfl g_is_bytes k_is_bytes b_is_bytes .nil pass0 (pa_cons (pv 1) pa_nil)) pe_bl (nomark _)) (pw_or1 (pt_cmpR (r := rNeD K) (op_neD hu64) (pv 1) (pv 2) (nomark _))))) (pss_one (ps_ret pe_bl)) pss_nil)
      (pss_cons (ps_set (i := 3) sc__law_rows_right.nd rfl (by first | exact Or.inl rfl | exact Or.inr rfl) (pe_lst (pa_cons pe_int (pa_cons (pe_un un_neg pe_int) (pa_cons pe_bl (pa_cons pe_non (pa_cons pe_str (pa_cons pe_str (pa_cons (pe_lst (pa_cons pe_int pa_nil)) (pa_cons (pe_tup (pa_cons pe_int pa_nil)) (pa_cons (pe_op op_sub pe_int (pe_callB cr_abs (by rfl) bI_abs PyProof.Rows.boot_abs (pa_cons (pe_call G__law_great hr2 rfl g__law_great k__law_great b__law_great .nil pass0 (pa_cons (pv 0) pa_nil)) pa_nil))) (pa_cons pe_bl (pa_cons pe_dnewK pa_nil)))))))))))))
      (pss_cons (ps_set (i := 4) sc__law_rows_right.nd rfl (by first | exact Or.inl rfl | exact Or.inr rfl) (pe_ix (r := rIxL K) ix_list (pv 3) (pe_call G__law_digit hr1 rfl g__law_digit k__law_digit b__law_digit .nil pass0 (pa_cons (pv 0) (pa_cons pe_int pa_nil))) (fun _ _ => rfl)))
      (pss_cons (ps_set (i := 5) sc__law_rows_right.nd rfl (by first | exact Or.inl rfl | exact Or.inr rfl) (pe_call G__law_digit hr1 rfl g__law_digit k__law_digit b__law_digit .nil pass0 (pa_cons (pv 0) (pa_cons (pe_op op_add (pe_callB (r := rLenY K) cr_len (by rfl) bI_len PySem.boot_len (pa_cons (pv 1) pa_nil)) pe_int) pa_nil))))
      (pss_cons (ps_set (i := 6) sc__law_rows_right.nd rfl (by first | exact Or.inl rfl | exact Or.inr rfl) (pe_op (r := rCatQ K) op_catQ (pe_op (r := rCatQ K) op_catQ (pe_slice (r := rSlQ K) sl_Q (pv 1) po_none (po_some (pv 5))) (pe_lst (pa_cons (pv 4) pa_nil))) (pe_slice (r := rSlQ K) sl_Q (pv 1) (po_some (pv 5)) po_none)))
      (pss_cons (ps_set (i := 7) sc__law_rows_right.nd rfl (by first | exact Or.inl rfl | exact Or.inr rfl) (pe_ix (r := rIxL K) ix_list (pe_lst (pa_cons (pe_callTy (r := rTupY K) cr_tuple (by rfl) bI_tuple Y.boot_tuple (pa_cons (pv 1) pa_nil)) (pa_cons pe_non (pa_cons pe_str (pa_cons pe_str (pa_cons pe_int (pa_cons pe_dnewK (pa_cons (pe_tup pa_nil) (pa_cons pe_bl (pa_cons (pe_callTy (r := rDictP K) (cr_dict rfl) (by rfl) bI_dict Y.boot_dict (pa_cons (pe_lc (own := [("_law_k", 8)]) rfl sc__law_rows_right.nd (pi_list (pv 1)) (blkOk_by (N := ["_law_state", "_law_row_here", "_law_held", "_law_odd", "_law_what", "_law_at", "_law_spoilt", "_law_bad", "_law_k", "_law_good"]) (sc := defScope s__law_rows_right) (by decide +kernel)) (fun _ _ _ _ _ => (pg_name (i := 8) sc__law_rows_right.nd rfl (by first | exact Or.inl rfl | exact Or.inr rfl))) (fun _ _ _ _ _ => pts_nil) (fun _ _ _ _ _ => (pe_tup (pa_cons (pv 8) (pa_cons (pv 8) pa_nil))))) pa_nil)) (pa_cons (pe_lst (pa_cons (pv 1) pa_nil)) pa_nil))))))))))) (pe_call G__law_digit hr1 rfl g__law_digit k__law_digit b__law_digit .nil pass0 (pa_cons (pv 0) (pa_cons pe_int pa_nil))) (fun _ _ => rfl)))
      (pss_cons (ps_set (i := 9) sc__law_rows_right.nd rfl (by first | exact Or.inl rfl | exact Or.inr rfl) (pe_and (pe_callB (r := rIsi K) call_isi (by rfl) bI_isinstance PyProof.Rows.boot_isinstance (pa_cons (pv 4) (pa_cons (pe_bltn (v := .ty "int") (by rfl) bI_int Y.boot_int rfl) pa_nil))) (pe_and (pe_not (pe_callB (r := rIsi K) call_isi (by rfl) bI_isinstance PyProof.Rows.boot_isinstance (pa_cons (pv 4) (pa_cons (pe_bltn (v := .ty "bool") (by rfl) bI_bool Y.boot_bool rfl) pa_nil)))) (pe_one (pe_chain op_le op_le pe_int (pv 4) pe_int)))))
      (pss_one (ps_ret (pe_and (pe_call G__law_truth hr1 rfl g__law_truth k__law_truth b__law_truth .nil pass0 (pa_cons (pe_call G_is_bytes hr2 rfl g_is_bytes k_is_bytes b_is_bytes .nil pass0 (pa_cons (pv 6) pa_nil)) (pa_cons (pv 9) pa_nil))) (pe_and (pe_cmpR op_isBl (pe_call G_is_bytes hr2 rfl g_is_bytes k_is_bytes b_is_bytes .nil pass0 (pa_cons (pv 7) pa_nil)) pe_bl (nomark _)) (pe_one (pe_cmpR op_isBl (pe_call G_is_bytes hr2 rfl g_is_bytes k_is_bytes b_is_bytes .nil pass0 (pa_cons (pv 1) pa_nil)) pe_bl (nomark _)))))))))))))))), ?_⟩
    unfold l_rows_right at P
    have st := Stp.refl (W := [p_state]) w
    refine h_set ?_
    refine h_call ?_
    refine h_cons ?_
    refine h_var rfl ?_
    refine h_nil ?_
    refine ⟨B0, p_state, a_state, w, rfl, m_state, (P.bind).mono (fun x1 P => ?_) (fun _ z => z)⟩
    refine fun v5 B2 H3 s4 m_state r6 => ?_
    replace st := st.go s4 (go1 (.inl (by simp)))
    replace w := s4.ok
    refine h_set ?_
    refine h_cb ?_
    refine h_cons ?_
    refine h_var rfl ?_
    refine h_nil ?_
    obtain ⟨p7, xs8, rfl, hs9, hr10⟩ := Rep.sq w r6
    refine h_listL hs9 ?_
    refine h_nwL w (ds := (x1.1).map enc) (K := K) hr10 (fun p11 B12 H13 s14 r15 => ?_) 
    replace m_state := m_state.step s14 nm0
    replace r6 := r6.mono s14.ex
    replace st := st.go s14 go0
    replace w := s14.ok
    replace r15 : Rep K B12 (.ref p11) (enc x1.1) := r15
    refine h_seq <| h_if ?_
    refine h_tor ?_
    refine h_test ?_
    refine h_op ?_
    refine h_call ?_
    refine h_cons ?_
    refine h_var rfl ?_
    refine h_nil ?_
    refine ⟨B12, (.ref p7), (enc x1.1), w, rfl, r6, (P.bind).mono (fun x16 P => ?_) (fun _ z => z)⟩
    refine fun v20 B17 H18 s19 r21 => ?_
    replace m_state := m_state.step s19 nm0
    replace r6 := r6.mono s19.ex
    replace r15 := r15.mono s19.ex
    replace st := st.go s19 go0
    replace w := s19.ok
    cases r21
    refine h_c ?_
    refine h_isnotB ?_
    refine h_bl ?_
    refine h_ite (fun c1 => ?_) (fun c1 => ?_)
    · replace P := P.iteT c1
      refine h_iteT ?_
      refine h_ret ?_
      refine h_c ?_
      exact P.ok _ _ _ st m_state (Rep.bl _)
    · replace P := P.iteF c1
      refine h_test ?_
      refine h_op ?_
      refine h_var rfl ?_
      refine h_var rfl ?_
      obtain ⟨gd, P⟩ := P.guard
      refine h_neD (d := (enc x1.1)) (e := (enc x1.1)) w r6 r15 gd ?_
      refine h_bl ?_
      refine h_ite (fun c1 => ?_) (fun c1 => ?_)
      · replace P := P.iteT c1
        refine h_ret ?_
        refine h_c ?_
        exact P.ok _ _ _ st m_state (Rep.bl _)
      · replace P := P.iteF c1
        refine h_next ?_
        refine h_nx ?_
        refine h_set ?_
        refine h_lst ?_
        refine h_cons ?_
        refine h_c ?_
        refine h_cons ?_
        refine h_un ?_
        refine h_c ?_
        refine h_U ?_
        refine h_cons ?_
        refine h_c ?_
        refine h_cons ?_
        refine h_c ?_
        refine h_cons ?_
        refine h_c ?_
        refine h_cons ?_
        refine h_c ?_
        refine h_cons ?_
        refine h_lst ?_
        refine h_cons ?_
        refine h_c ?_
        refine h_nil ?_
        refine h_newL w (ds := (([0] : List Int)).map enc) (K := K) (.cons (Rep.int _) .nil) (fun p22 B23 H24 s25 r26 => ?_) (by show 1 ≤ sizeLine; decide)
        replace m_state := m_state.step s25 nm0
        replace r6 := r6.mono s25.ex
        replace r15 := r15.mono s25.ex
        replace st := st.go s25 go0
        replace w := s25.ok
        replace r26 : Rep K B23 (.ref p22) (enc ([0] : List Int)) := r26
        refine h_cons ?_
        refine h_tup ?_
        refine h_cons ?_
        refine h_c ?_
        refine h_nil ?_
        refine h_newT w (K := K) (.cons (Rep.int _) .nil) (fun p27 B28 H29 s30 r31 => ?_) (by show 1 ≤ sizeLine; decide)
        replace m_state := m_state.step s30 nm0
        replace r6 := r6.mono s30.ex
        replace r15 := r15.mono s30.ex
        replace r26 := r26.mono s30.ex
        replace st := st.go s30 go0
        replace w := s30.ok
        replace r31 : Rep K B28 (.ref p27) (enc (⟨0⟩ : (Tp1 Int))) := r31
        refine h_cons ?_
        refine h_op ?_
        refine h_c ?_
        refine h_cb ?_
        refine h_cons ?_
        refine h_call ?_
        refine h_cons ?_
        refine h_var rfl ?_
        refine h_nil ?_
        refine ⟨B28, p_state, x1.2, w, rfl, m_state, (P.bind).mono (fun x32 P => ?_) (fun _ z => z)⟩
        refine fun v36 B33 H34 s35 m_state r37 => ?_
        replace r6 := r6.mono s35.ex
        replace r15 := r15.mono s35.ex
        replace r26 := r26.mono s35.ex
        replace r31 := r31.mono s35.ex
        replace st := st.go s35 (go1 (.inl (by simp)))
        replace w := s35.ok
        cases r37
        refine h_nil ?_
        refine h_abs ?_
        refine h_I0 ?_
        refine h_cons ?_
        refine h_c ?_
        refine h_cons ?_
        refine h_dnew w (K := K) (fun p38 B39 H40 s41 r42 => ?_)
        replace m_state := m_state.step s41 nm0
        replace r6 := r6.mono s41.ex
        replace r15 := r15.mono s41.ex
        replace r26 := r26.mono s41.ex
        replace r31 := r31.mono s41.ex
        replace st := st.go s41 go0
        replace w := s41.ok
        refine h_nil ?_
        refine h_newL w (ds := (([(enc (256 : Int)), (enc ((-1) : Int)), (enc true), (enc ()), (enc ("0" : Str)), (enc ("a" : Str)), (enc ([0] : List Int)), (enc (⟨0⟩ : (Tp1 Int))), (enc ((0 - (absI x32.1)) : Int)), (enc false), (.dic [] : D)] : List D)).map enc) (K := K) (.cons (Rep.int _) (.cons (Rep.int _) (.cons (Rep.bl _) (.cons Rep.non (.cons (Rep.str _) (.cons (Rep.str _) (.cons r26 (.cons r31 (.cons (Rep.int _) (.cons (Rep.bl _) (.cons r42 .nil))))))))))) (fun p43 B44 H45 s46 r47 => ?_) (by show 11 ≤ sizeLine; decide)
        replace m_state := m_state.step s46 nm0
        replace r6 := r6.mono s46.ex
        replace r15 := r15.mono s46.ex
        replace st := st.go s46 go0
        replace w := s46.ok
        replace r47 : Rep K B44 (.ref p43) (enc ([(enc (256 : Int)), (enc ((-1) : Int)), (enc true), (enc ()), (enc ("0" : Str)), (enc ("a" : Str)), (enc ([0] : List Int)), (enc (⟨0⟩ : (Tp1 Int))), (enc ((0 - (absI x32.1)) : Int)), (enc false), (.dic [] : D)] : List D)) := r47
        refine h_set ?_
        refine h_op ?_
        refine h_var rfl ?_
        refine h_call ?_
        refine h_cons ?_
        refine h_var rfl ?_
        refine h_cons ?_
        refine h_c ?_
        refine h_nil ?_
        refine ⟨B44, p_state, x32.2, 11, w, rfl, m_state, (P.bind).mono (fun x48 P => ?_) (fun _ z => z)⟩
        refine fun v52 B49 H50 s51 m_state r53 => ?_
        replace r6 := r6.mono s51.ex
        replace r15 := r15.mono s51.ex
        replace r47 := r47.mono s51.ex
        replace st := st.go s51 (go1 (.inl (by simp)))
        replace w := s51.ok
        cases r53
        obtain ⟨p54, xs55, hv, hs56, hr57⟩ := Rep.sq w r47
        cases hv
        obtain ⟨x58, hx59, P⟩ := P.ix
        obtain ⟨u60, hu, r61⟩ := RepL.atE hr57 hx59
        refine h_ixL hs56 hu ?_
        refine h_set ?_
        refine h_call ?_
        refine h_cons ?_
        refine h_var rfl ?_
        refine h_cons ?_
        refine h_op ?_
        refine h_cb ?_
        refine h_cons ?_
        refine h_var rfl ?_
        refine h_nil ?_
        obtain ⟨p62, xs63, hv, hs64, hr65⟩ := Rep.sq w r6
        cases hv
        refine h_len hs64 hr65 ?_
        refine h_c ?_
        refine h_I0 ?_
        refine h_nil ?_
        refine ⟨B49, p_state, x48.2, ((x1.1.length : Int) + 1), w, rfl, m_state, (P.bind).mono (fun x66 P => ?_) (fun _ z => z)⟩
        refine fun v70 B67 H68 s69 m_state r71 => ?_
        replace r6 := r6.mono s69.ex
        replace r15 := r15.mono s69.ex
        replace r47 := r47.mono s69.ex
        replace r61 := r61.mono s69.ex
        replace st := st.go s69 (go1 (.inl (by simp)))
        replace w := s69.ok
        cases r71
        refine h_set ?_
        refine h_op ?_
        refine h_op ?_
        refine h_sl ?_
        refine h_var rfl ?_
        refine h_nopart ?_
        refine h_part ?_
        refine h_var rfl ?_
        refine h_isI ?_
        obtain ⟨p72, xs73, hv, hs74, hr75⟩ := Rep.sq w r6
        cases hv
        refine h_slQ hs74 ?_
        refine h_nwL w (ds := ((cutL x1.1 none (some x66.1))).map enc) (K := K) (hr75.cut none (some x66.1)) (fun p76 B77 H78 s79 r80 => ?_) 
        replace m_state := m_state.step s79 nm0
        replace r6 := r6.mono s79.ex
        replace r15 := r15.mono s79.ex
        replace r47 := r47.mono s79.ex
        replace r61 := r61.mono s79.ex
        replace st := st.go s79 go0
        replace w := s79.ok
        replace r80 : Rep K B77 (.ref p76) (enc (cutL x1.1 none (some x66.1))) := r80
        refine h_lst ?_
        refine h_cons ?_
        refine h_var rfl ?_
        refine h_nil ?_
        refine h_newL w (ds := (([x58] : List D)).map enc) (K := K) (.cons r61 .nil) (fun p81 B82 H83 s84 r85 => ?_) (by show 1 ≤ sizeLine; decide)
        replace m_state := m_state.step s84 nm0
        replace r6 := r6.mono s84.ex
        replace r15 := r15.mono s84.ex
        replace r47 := r47.mono s84.ex
        replace r61 := r61.mono s84.ex
        replace r80 := r80.mono s84.ex
        replace st := st.go s84 go0
        replace w := s84.ok
        replace r85 : Rep K B82 (.ref p81) (enc ([x58] : List D)) := r85
        obtain ⟨p86, xs87, hv, hs88, hr89⟩ := Rep.sq w r80
        cases hv
        obtain ⟨p90, xs91, hv, hs92, hr93⟩ := Rep.sq w r85
        cases hv
        replace hr89 := hr89.toD
        obtain ⟨gd, P⟩ := P.guard
        refine h_cat hs88 hs92 (by have g := gd; simp only [hr89.length, hr93.length, List.length_map] at g ⊢; exact Nat.le_trans g (by decide)) ?_
        refine h_nwL w (ds := ((((cutL x1.1 none (some x66.1)).map enc : List D) ++ ([x58] : List D))).map enc) (K := K) (RepL.cat hr89 hr93) (fun p94 B95 H96 s97 r98 => ?_) 
        replace m_state := m_state.step s97 nm0
        replace r6 := r6.mono s97.ex
        replace r15 := r15.mono s97.ex
        replace r47 := r47.mono s97.ex
        replace r61 := r61.mono s97.ex
        replace st := st.go s97 go0
        replace w := s97.ok
        replace r98 : Rep K B95 (.ref p94) (enc (((cutL x1.1 none (some x66.1)).map enc : List D) ++ ([x58] : List D))) := r98
        refine h_sl ?_
        refine h_var rfl ?_
        refine h_part ?_
        refine h_var rfl ?_
        refine h_isI ?_
        refine h_nopart ?_
        obtain ⟨p99, xs100, hv, hs101, hr102⟩ := Rep.sq w r6
        cases hv
        refine h_slQ hs101 ?_
        refine h_nwL w (ds := ((cutL x1.1 (some x66.1) none)).map enc) (K := K) (hr102.cut (some x66.1) none) (fun p103 B104 H105 s106 r107 => ?_) 
        replace m_state := m_state.step s106 nm0
        replace r6 := r6.mono s106.ex
        replace r15 := r15.mono s106.ex
        replace r47 := r47.mono s106.ex
        replace r61 := r61.mono s106.ex
        replace r98 := r98.mono s106.ex
        replace st := st.go s106 go0
        replace w := s106.ok
        replace r107 : Rep K B104 (.ref p103) (enc (cutL x1.1 (some x66.1) none)) := r107
        obtain ⟨p108, xs109, hv, hs110, hr111⟩ := Rep.sq w r98
        cases hv
        obtain ⟨p112, xs113, hv, hs114, hr115⟩ := Rep.sq w r107
        cases hv
        replace hr115 := hr115.toD
        obtain ⟨gd, P⟩ := P.guard
        refine h_cat hs110 hs114 (by have g := gd; simp only [hr111.length, hr115.length, List.length_map] at g ⊢; exact Nat.le_trans g (by decide)) ?_
        refine h_nwL w (ds := (((((cutL x1.1 none (some x66.1)).map enc : List D) ++ ([x58] : List D)) ++ ((cutL x1.1 (some x66.1) none).map enc : List D))).map enc) (K := K) (RepL.cat hr111 hr115) (fun p116 B117 H118 s119 r120 => ?_) 
        replace m_state := m_state.step s119 nm0
        replace r6 := r6.mono s119.ex
        replace r15 := r15.mono s119.ex
        replace r47 := r47.mono s119.ex
        replace r61 := r61.mono s119.ex
        replace st := st.go s119 go0
        replace w := s119.ok
        replace r120 : Rep K B117 (.ref p116) (enc ((((cutL x1.1 none (some x66.1)).map enc : List D) ++ ([x58] : List D)) ++ ((cutL x1.1 (some x66.1) none).map enc : List D))) := r120
        refine h_set ?_
        refine h_op ?_
        refine h_lst ?_
        refine h_cons ?_
        refine h_cb ?_
        refine h_cons ?_
        refine h_var rfl ?_
        refine h_nil ?_
        obtain ⟨p121, xs122, hv, hs123, hr124⟩ := Rep.sq w r6
        cases hv
        refine h_tupL hs123 (h_nwT w (K := K) hr124 (fun p125 B126 H127 s128 r129 => ?_))
        replace m_state := m_state.step s128 nm0
        replace r6 := r6.mono s128.ex
        replace r15 := r15.mono s128.ex
        replace r47 := r47.mono s128.ex
        replace r61 := r61.mono s128.ex
        replace r120 := r120.mono s128.ex
        replace st := st.go s128 go0
        replace w := s128.ok
        refine h_cons ?_
        refine h_c ?_
        refine h_cons ?_
        refine h_c ?_
        refine h_cons ?_
        refine h_c ?_
        refine h_cons ?_
        refine h_c ?_
        refine h_cons ?_
        refine h_dnew w (K := K) (fun p130 B131 H132 s133 r134 => ?_)
        replace m_state := m_state.step s133 nm0
        replace r6 := r6.mono s133.ex
        replace r15 := r15.mono s133.ex
        replace r47 := r47.mono s133.ex
        replace r61 := r61.mono s133.ex
        replace r120 := r120.mono s133.ex
        replace r129 := r129.mono s133.ex
        replace st := st.go s133 go0
        replace w := s133.ok
        refine h_cons ?_
        refine h_tup ?_
        refine h_nil ?_
        refine h_newT w (K := K) .nil (fun p135 B136 H137 s138 r139 => ?_) (by show 0 ≤ sizeLine; decide)
        replace m_state := m_state.step s138 nm0
        replace r6 := r6.mono s138.ex
        replace r15 := r15.mono s138.ex
        replace r47 := r47.mono s138.ex
        replace r61 := r61.mono s138.ex
        replace r120 := r120.mono s138.ex
        replace r129 := r129.mono s138.ex
        replace r134 := r134.mono s138.ex
        replace st := st.go s138 go0
        replace w := s138.ok
        replace r139 : Rep K B136 (.ref p135) (enc (.tup [] : D)) := r139
        refine h_cons ?_
        refine h_c ?_
        refine h_cons ?_
        refine h_cb ?_
        refine h_cons ?_
        refine h_lcE ?_
        refine h_var rfl ?_
        obtain ⟨p140, xs141, hv, hb142, hr143⟩ := Rep.sqB r6
        cases hv
        refine h_lcL P (w.l hb142) hr143 (fun Dl (acc : List (Tp2 Int Int)) (a : Unit) H' => ∃ B', Stp [] B136 H137 B' H' ∧ H137 Dl = none ∧ Mu K B' H' Dl (acc.map enc) ∧ p_state ≠ Dl) (fun Dl hD => ⟨_, Stp.newM w hD, hD, Mu.new w hD .nil, Mu.ne m_state hD⟩) (fun _ _ _ _ j => ?_) ?_ ?_
        · obtain ⟨B153, s154, hD155, m156, ne160⟩ := j
          exact s154.ok.l (s154.ex.l hb142)
        · rintro Dl144 N145 T146 x147 v148 acc150 a151 H152 ⟨B153, s154, hD155, m156, ne160⟩ r149 hz157 kk158 kn159 P
          have wj162 := w
          have sj161 := s154
          have n163 := st.nn hD155
          replace m_state := m_state.step s154 nm0
          replace r6 := r6.mono s154.ex
          replace r15 := r15.mono s154.ex
          replace r47 := r47.mono s154.ex
          replace r61 := r61.mono s154.ex
          replace r120 := r120.mono s154.ex
          replace r129 := r129.mono s154.ex
          replace r134 := r134.mono s154.ex
          replace r139 := r139.mono s154.ex
          replace st := st.go s154 go0
          replace w := s154.ok
          replace r149 := r149.mono s154.ex
          cases r149
          refine h_gname ?_
          refine h_lcT rfl ?_
          refine h_tup ?_
          refine h_cons ?_
          refine h_var rfl ?_
          refine h_cons ?_
          refine h_var rfl ?_
          refine h_nil ?_
          refine h_newT w (K := K) (.cons (Rep.int _) (.cons (Rep.int _) .nil)) (fun p164 B165 H166 s167 r168 => ?_) (by show 2 ≤ sizeLine; decide)
          replace m_state := m_state.step s167 nm0
          replace r6 := r6.mono s167.ex
          replace r15 := r15.mono s167.ex
          replace r47 := r47.mono s167.ex
          replace r61 := r61.mono s167.ex
          replace r120 := r120.mono s167.ex
          replace r129 := r129.mono s167.ex
          replace r134 := r134.mono s167.ex
          replace r139 := r139.mono s167.ex
          replace m156 := m156.step s167 nm0
          replace st := st.go s167 go0
          replace sj161 := sj161.go s167 go0
          replace w := s167.ok
          replace r168 : Rep K B165 (.ref p164) (enc (⟨x147, x147⟩ : (Tp2 Int Int))) := r168
          refine h_app (b := (⟨x147, x147⟩ : (Tp2 Int Int))) w m156 r168 hz157 (fun H169 s170 m156 => ?_)
          replace m_state := m_state.step s170 (nm1 ne160)
          replace r6 := r6.mono s170.ex
          replace r15 := r15.mono s170.ex
          replace r47 := r47.mono s170.ex
          replace r61 := r61.mono s170.ex
          replace r120 := r120.mono s170.ex
          replace r129 := r129.mono s170.ex
          replace r134 := r134.mono s170.ex
          replace r139 := r139.mono s170.ex
          replace st := st.go s170 (go1 (.inr n163))
          replace sj161 := sj161.go s170 (go1 (.inr hD155))
          replace w := s170.ok
          exact kk158 (⟨x147, x147⟩ : (Tp2 Int Int)) () _ ⟨_, sj161, hD155, m156, ne160⟩ P.ok
        · rintro Dl144 acc150 a151 H152 ⟨B153, s154, hD155, m156, ne160⟩ P
          have n171 := st.nn hD155
          replace m_state := m_state.step s154 nm0
          replace r6 := r6.mono s154.ex
          replace r15 := r15.mono s154.ex
          replace r47 := r47.mono s154.ex
          replace r61 := r61.mono s154.ex
          replace r120 := r120.mono s154.ex
          replace r129 := r129.mono s154.ex
          replace r134 := r134.mono s154.ex
          replace r139 := r139.mono s154.ex
          replace st := st.go s154 go0
          replace w := s154.ok
          replace P := P.un2
          obtain ⟨B176, e172, k173, g174, r175⟩ := Mu.keep m156
          replace st := g174 _ _ _ st w0 n171
          replace m_state := m_state.kp e172 k173 ne160
          replace r6 := r6.mono e172
          replace r15 := r15.mono e172
          replace r47 := r47.mono e172
          replace r61 := r61.mono e172
          replace r120 := r120.mono e172
          replace r129 := r129.mono e172
          replace r134 := r134.mono e172
          replace r139 := r139.mono e172
          replace w := st.ok
          replace r175 : Rep K B176 (.ref Dl144) (enc acc150) := r175
          refine h_nil ?_
          obtain ⟨p177, xs178, hv, hs179, hr180⟩ := Rep.sq w r175
          cases hv
          refine h_dictP w hs179 hr180 (fun p181 B182 H183 s184 r185 => ?_)
          replace m_state := m_state.step s184 nm0
          replace r6 := r6.mono s184.ex
          replace r15 := r15.mono s184.ex
          replace r47 := r47.mono s184.ex
          replace r61 := r61.mono s184.ex
          replace r120 := r120.mono s184.ex
          replace r129 := r129.mono s184.ex
          replace r134 := r134.mono s184.ex
          replace r139 := r139.mono s184.ex
          replace st := st.go s184 go0
          replace w := s184.ok
          refine h_cons ?_
          refine h_lst ?_
          refine h_cons ?_
          refine h_var rfl ?_
          refine h_nil ?_
          refine h_newL w (ds := (([x1.1] : List (List Int))).map enc) (K := K) (.cons r6 .nil) (fun p186 B187 H188 s189 r190 => ?_) (by show 1 ≤ sizeLine; decide)
          replace m_state := m_state.step s189 nm0
          replace r6 := r6.mono s189.ex
          replace r15 := r15.mono s189.ex
          replace r47 := r47.mono s189.ex
          replace r61 := r61.mono s189.ex
          replace r120 := r120.mono s189.ex
          replace r129 := r129.mono s189.ex
          replace r134 := r134.mono s189.ex
          replace r139 := r139.mono s189.ex
          replace r185 := r185.mono s189.ex
          replace st := st.go s189 go0
          replace w := s189.ok
          replace r190 : Rep K B187 (.ref p186) (enc ([x1.1] : List (List Int))) := r190
          refine h_nil ?_
          refine h_newL w (ds := (([(.tup (x1.1.map enc) : D), (enc ()), (enc ("" : Str)), (enc ("00" : Str)), (enc (0 : Int)), (.dic [] : D), (.tup [] : D), (enc true), (.dic (dictI acc150) : D), (enc ([x1.1] : List (List Int)))] : List D)).map enc) (K := K) (.cons r129 (.cons Rep.non (.cons (Rep.str _) (.cons (Rep.str _) (.cons (Rep.int _) (.cons r134 (.cons r139 (.cons (Rep.bl _) (.cons r185 (.cons r190 .nil)))))))))) (fun p191 B192 H193 s194 r195 => ?_) (by show 10 ≤ sizeLine; decide)
          replace m_state := m_state.step s194 nm0
          replace r6 := r6.mono s194.ex
          replace r15 := r15.mono s194.ex
          replace r47 := r47.mono s194.ex
          replace r61 := r61.mono s194.ex
          replace r120 := r120.mono s194.ex
          replace st := st.go s194 go0
          replace w := s194.ok
          replace r195 : Rep K B192 (.ref p191) (enc ([(.tup (x1.1.map enc) : D), (enc ()), (enc ("" : Str)), (enc ("00" : Str)), (enc (0 : Int)), (.dic [] : D), (.tup [] : D), (enc true), (.dic (dictI acc150) : D), (enc ([x1.1] : List (List Int)))] : List D)) := r195
          refine h_call ?_
          refine h_cons ?_
          refine h_var rfl ?_
          refine h_cons ?_
          refine h_c ?_
          refine h_nil ?_
          refine ⟨B192, p_state, x66.2, 10, w, rfl, m_state, (P.bind).mono (fun x196 P => ?_) (fun _ z => z)⟩
          refine fun v200 B197 H198 s199 m_state r201 => ?_
          replace r6 := r6.mono s199.ex
          replace r15 := r15.mono s199.ex
          replace r47 := r47.mono s199.ex
          replace r61 := r61.mono s199.ex
          replace r120 := r120.mono s199.ex
          replace r195 := r195.mono s199.ex
          replace st := st.go s199 (go1 (.inl (by simp)))
          replace w := s199.ok
          cases r201
          obtain ⟨p202, xs203, hv, hs204, hr205⟩ := Rep.sq w r195
          cases hv
          obtain ⟨x206, hx207, P⟩ := P.ix
          obtain ⟨u208, hu, r209⟩ := RepL.atE hr205 hx207
          refine h_ixL hs204 hu ?_
          refine h_set ?_
          have wj211 := w
          have sj210 := Stp.refl (W := []) w
          refine h_exprJ P (fun (a : Bool) v H' => ∃ B', Stp [] B197 H198 B' H' ∧ v = .bl a) (fun N kk212 P => ?_) ?_
          · skip
            refine h_and ?_
            refine h_cb ?_
            refine h_cons ?_
            refine h_var rfl ?_
            refine h_cons ?_
            refine h_c ?_
            refine h_nil ?_
            refine isi (t := "int") w r61 ?_
            refine h_bl ?_
            refine h_ite (fun c1 => ?_) (fun c1 => ?_)
            · replace P := P.iteT c1
              refine h_and ?_
              refine h_not ?_
              refine h_cb ?_
              refine h_cons ?_
              refine h_var rfl ?_
              refine h_cons ?_
              refine h_c ?_
              refine h_nil ?_
              refine isi (t := "bool") w r61 ?_
              refine h_bl ?_
              refine h_bl ?_
              refine h_ite (fun c1 => ?_) (fun c1 => ?_)
              · replace P := P.iteT c1
                refine h_chain ?_
                refine h_c ?_
                refine h_var rfl ?_
                obtain ⟨i213, hi214, P⟩ := P.asI
                have rc215 := r61
                rw [hi214] at rc215
                cases rc215
                refine h_ch (k := 255) (fun Q216 q217 => ?_) ?_
                · skip
                  refine h_c ?_
                  exact q217
                exact kk212 ((decide (0 ≤ i213)) && (decide (i213 ≤ 255))) _ _ ⟨_, sj210, rfl⟩ P.ok
              · replace P := P.iteF c1
                exact kk212 false _ _ ⟨_, sj210, rfl⟩ P.ok
            · replace P := P.iteF c1
              exact kk212 false _ _ ⟨_, sj210, rfl⟩ P.ok
          rintro a218 v219 H221 ⟨B220, s222, r223⟩ P
          replace m_state := m_state.step s222 nm0
          replace r6 := r6.mono s222.ex
          replace r15 := r15.mono s222.ex
          replace r47 := r47.mono s222.ex
          replace r61 := r61.mono s222.ex
          replace r120 := r120.mono s222.ex
          replace r209 := r209.mono s222.ex
          replace st := st.go s222 go0
          replace w := s222.ok
          subst r223
          refine h_ret ?_
          refine h_and ?_
          refine h_call ?_
          refine h_cons ?_
          refine h_call ?_
          refine h_cons ?_
          refine h_var rfl ?_
          refine h_nil ?_
          refine ⟨B220, (.ref p116), (enc ((((cutL x1.1 none (some x66.1)).map enc : List D) ++ ([x58] : List D)) ++ ((cutL x1.1 (some x66.1) none).map enc : List D))), w, rfl, r120, (P.bind).mono (fun x224 P => ?_) (fun _ z => z)⟩
          refine fun v228 B225 H226 s227 r229 => ?_
          replace m_state := m_state.step s227 nm0
          replace r6 := r6.mono s227.ex
          replace r15 := r15.mono s227.ex
          replace r47 := r47.mono s227.ex
          replace r61 := r61.mono s227.ex
          replace r120 := r120.mono s227.ex
          replace r209 := r209.mono s227.ex
          replace st := st.go s227 go0
          replace w := s227.ok
          cases r229
          refine h_cons ?_
          refine h_var rfl ?_
          refine h_nil ?_
          refine ⟨B225, x224, a218, w, rfl, (P.bind).mono (fun x230 P => ?_) (fun _ z => z)⟩
          refine fun v234 B231 H232 s233 r235 => ?_
          replace m_state := m_state.step s233 nm0
          replace r6 := r6.mono s233.ex
          replace r15 := r15.mono s233.ex
          replace r47 := r47.mono s233.ex
          replace r61 := r61.mono s233.ex
          replace r120 := r120.mono s233.ex
          replace r209 := r209.mono s233.ex
          replace st := st.go s233 go0
          replace w := s233.ok
          cases r235
          refine h_bl ?_
          refine h_ite (fun c1 => ?_) (fun c1 => ?_)
          · replace P := P.iteT c1
            refine h_and ?_
            refine h_op ?_
            refine h_call ?_
            refine h_cons ?_
            refine h_var rfl ?_
            refine h_nil ?_
            refine ⟨B231, u208, x206, w, rfl, r209, (P.bind).mono (fun x236 P => ?_) (fun _ z => z)⟩
            refine fun v240 B237 H238 s239 r241 => ?_
            replace m_state := m_state.step s239 nm0
            replace r6 := r6.mono s239.ex
            replace r15 := r15.mono s239.ex
            replace r47 := r47.mono s239.ex
            replace r61 := r61.mono s239.ex
            replace r120 := r120.mono s239.ex
            replace r209 := r209.mono s239.ex
            replace st := st.go s239 go0
            replace w := s239.ok
            cases r241
            refine h_c ?_
            refine h_isB ?_
            refine h_bl ?_
            refine h_ite (fun c1 => ?_) (fun c1 => ?_)
            · replace P := P.iteT c1
              refine h_op ?_
              refine h_call ?_
              refine h_cons ?_
              refine h_var rfl ?_
              refine h_nil ?_
              refine ⟨B237, (.ref p7), (enc x1.1), w, rfl, r6, (P.bind).mono (fun x242 P => ?_) (fun _ z => z)⟩
              refine fun v246 B243 H244 s245 r247 => ?_
              replace m_state := m_state.step s245 nm0
              replace r6 := r6.mono s245.ex
              replace r15 := r15.mono s245.ex
              replace r47 := r47.mono s245.ex
              replace r61 := r61.mono s245.ex
              replace r120 := r120.mono s245.ex
              replace r209 := r209.mono s245.ex
              replace st := st.go s245 go0
              replace w := s245.ok
              cases r247
              refine h_c ?_
              refine h_isB ?_
              exact P.ok _ _ _ st m_state (Rep.bl _)
            · replace P := P.iteF c1
              exact P.ok _ _ _ st m_state (Rep.bl _)
          · replace P := P.iteF c1
            exact P.ok _ _ _ st m_state (Rep.bl _)
theorem ok_law {f : Addr} {fd : FuncData} (F : Fun K "law" "law" s_law f fd) {f__law_cell_at : Addr} {d__law_cell_at : FuncData} (g__law_cell_at : mg "_law_cell_at" = some (.ref f__law_cell_at)) (k__law_cell_at : PySem.W.keepIn K (.ref f__law_cell_at) = true) (b__law_cell_at : Binds K d__law_cell_at ["_law_script", "_law_k"] []) (G__law_cell_at : FnOk Pr wo K mg base CX0 1 f__law_cell_at d__law_cell_at ["_law_script", "_law_k"] (sp__law_cell_at K)) {f__law_whole_right : Addr} {d__law_whole_right : FuncData} (g__law_whole_right : mg "_law_whole_right" = some (.ref f__law_whole_right)) (k__law_whole_right : PySem.W.keepIn K (.ref f__law_whole_right) = true) (b__law_whole_right : Binds K d__law_whole_right ["_law_state"] []) (G__law_whole_right : FnOk Pr wo K mg base CX0 3 f__law_whole_right d__law_whole_right ["_law_state"] (sp__law_whole_right K)) {f__law_rows_right : Addr} {d__law_rows_right : FuncData} (g__law_rows_right : mg "_law_rows_right" = some (.ref f__law_rows_right)) (k__law_rows_right : PySem.W.keepIn K (.ref f__law_rows_right) = true) (b__law_rows_right : Binds K d__law_rows_right ["_law_state"] []) (G__law_rows_right : FnOk Pr wo K mg base CX0 3 f__law_rows_right d__law_rows_right ["_law_state"] (sp__law_rows_right K)) : FnOk Pr wo K mg base CX0 4 f fd ["_law_script"] (sp_law K) := by
  refine F.ok sc_law (fun vs H Q E h => ?_) (fun cdv A outer s H0 vs Q E hr h => ?_)
  · obtain ⟨_, _, _, _, rfl, _⟩ := h; rfl
  · obtain ⟨B0, v_script, a_script, w, rfl, r_script, P⟩ := h
    have w0 := w
    have hu := hu_of hr
    have hu64 := hu64_of hr
    have hr1 : Room 1 _ := hr.mono (by decide)
    have hr3 : Room 3 _ := hr.mono (by decide)
    refine ⟨_, (pss_cons (ps_set (i := 1) sc_law.nd rfl (by first | exact Or.inl rfl | exact Or.inr rfl) (pe_lst (pa_cons (pe_call G__law_cell_at hr1 rfl g__law_cell_at k__law_cell_at b__law_cell_at .nil pass0 (pa_cons (pv 0) (pa_cons pe_int pa_nil))) pa_nil)))
      (pss_cons (ps_for PassesOwn.never rfl (pi_list (pe_op (r := rCatQ K) op_catQ (pe_lst (pa_cons pe_int pa_nil)) (pe_slice (r := rSlQ K) sl_Q (pv 0) (po_some pe_int) (po_some pe_int)))) (pg_name (i := 2) sc_law.nd rfl (by first | exact Or.inl rfl | exact Or.inr rfl)) (pss_one (ps_if (PW.pt (pw_or (pt_not (pt_val (pe_call G__law_whole_right hr3 rfl g__law_whole_right k__law_whole_right b__law_whole_right .nil pass0 (pa_cons (pe_lst (pa_cons (pv 2) pa_nil)) pa_nil)))) (pw_or1 (pt_not (pt_val (pe_call G__law_rows_right hr3 rfl g__law_rows_right k__law_rows_right b__law_rows_right .nil pass0 (pa_cons (pe_lst (pa_cons (pv 2) pa_nil)) pa_nil))))))) (pss_one (ps_ret pe_bl)) pss_nil)))
      (pss_one (ps_ret (pe_and (pe_call G__law_whole_right hr3 rfl g__law_whole_right k__law_whole_right b__law_whole_right .nil pass0 (pa_cons (pv 1) pa_nil)) (pe_one (pe_call G__law_rows_right hr3 rfl g__law_rows_right k__law_rows_right b__law_rows_right .nil pass0 (pa_cons (pv 1) pa_nil)))))))), ?_⟩
    unfold m_law at P
    have st := Stp.refl (W := []) w
    refine h_set ?_
    refine h_lst ?_
    refine h_cons ?_
    refine h_call ?_
    refine h_cons ?_
    refine h_var rfl ?_
    refine h_cons ?_
    refine h_c ?_
    refine h_nil ?_
    refine ⟨B0, v_script, a_script, 0, w, rfl, ((r_script.step st).w sub0), (P.bind).mono (fun x1 P => ?_) (fun _ z => z)⟩
    refine fun v5 B2 H3 s4 r6 => ?_
    replace st := st.go s4 go0
    replace w := s4.ok
    cases r6
    refine h_nil ?_
    refine h_newM w (ds := (([x1] : List Int)).map enc) (K := K) (.cons (Rep.int _) .nil) (fun p7 H8 hn11 s9 m10 => ?_) (by show 1 ≤ sizeLine; decide)
    have n12 := st.nn hn11
    replace st := st.go s9 go0
    replace w := s9.ok
    refine h_seq ?_
    refine h_forE ?_
    refine h_op ?_
    refine h_lst ?_
    refine h_cons ?_
    refine h_c ?_
    refine h_nil ?_
    refine h_newL w (ds := (([0] : List Int)).map enc) (K := K) (.cons (Rep.int _) .nil) (fun p13 B14 H15 s16 r17 => ?_) (by show 1 ≤ sizeLine; decide)
    replace m10 := m10.step s16 nm0
    replace st := st.go s16 go0
    replace w := s16.ok
    replace r17 : Rep K B14 (.ref p13) (enc ([0] : List Int)) := r17
    refine h_sl ?_
    refine h_var rfl ?_
    refine h_part ?_
    refine h_c ?_
    refine h_isI ?_
    refine h_part ?_
    refine h_c ?_
    refine h_isI ?_
    obtain ⟨p18, xs19, rfl, hs20, hr21⟩ := Bor.sq (r_script.step st)
    refine h_slQ hs20 ?_
    refine h_nwL w (ds := ((cutL a_script (some 1) (some 13))).map enc) (K := K) (hr21.cut (some 1) (some 13)) (fun p22 B23 H24 s25 r26 => ?_) 
    replace m10 := m10.step s25 nm0
    replace r17 := r17.mono s25.ex
    replace st := st.go s25 go0
    replace w := s25.ok
    replace r26 : Rep K B23 (.ref p22) (enc (cutL a_script (some 1) (some 13))) := r26
    obtain ⟨p27, xs28, hv, hs29, hr30⟩ := Rep.sq w r17
    cases hv
    obtain ⟨p31, xs32, hv, hs33, hr34⟩ := Rep.sq w r26
    cases hv
    obtain ⟨gd, P⟩ := P.guard
    refine h_cat hs29 hs33 (by have g := gd; simp only [hr30.length, hr34.length, List.length_map] at g ⊢; exact Nat.le_trans g (by decide)) ?_
    refine h_nwL w (ds := ((([0] : List Int) ++ (cutL a_script (some 1) (some 13)))).map enc) (K := K) (RepL.cat hr30 hr34) (fun p35 B36 H37 s38 r39 => ?_) 
    replace m10 := m10.step s38 nm0
    replace st := st.go s38 go0
    replace w := s38.ok
    replace r39 : Rep K B36 (.ref p35) (enc (([0] : List Int) ++ (cutL a_script (some 1) (some 13)))) := r39
    obtain ⟨p40, xs41, hv, hb42, hr43⟩ := Rep.sqB r39
    cases hv
    have wj45 := w
    have sj44 := Stp.refl (W := []) w
    refine h_forL P (w.l hb42) hr43 (fun (a : Unit) σ' H' => ∃ (B' : Hp) (o__law_cell : Option V), Stp [] B36 H37 B' H' ∧ σ' = [some ((.ref p18)), some ((.ref p7)), o__law_cell]) ⟨_, _, sj44, rfl⟩ (fun _ _ _ j => ?_) ?_ ?_
    · obtain ⟨B55, o58, s57, rfl⟩ := j
      exact s57.ok.l (s57.ex.l hb42)
    · rintro N46 T47 x52 v53 a51 _ H56 ⟨B55, o58, s57, rfl⟩ r54 kk48 kr49 kb50 P
      replace m10 := m10.step s57 nm0
      replace st := st.go s57 go0
      replace w := s57.ok
      have sj44 := s57
      replace r54 := r54.mono sj44.ex
      cases r54
      refine h_gname ?_
      refine h_if ?_
      refine h_tor ?_
      refine h_tnot ?_
      refine h_tB ?_
      refine h_call ?_
      refine h_cons ?_
      refine h_lst ?_
      refine h_cons ?_
      refine h_var rfl ?_
      refine h_nil ?_
      refine h_newM w (ds := (([x52] : List Int)).map enc) (K := K) (.cons (Rep.int _) .nil) (fun p59 H60 hn63 s61 m62 => ?_) (by show 1 ≤ sizeLine; decide)
      have n64 := st.nn hn63
      have n65 := sj44.nn hn63
      have ne66 := Mu.ne m10 hn63
      replace m10 := m10.step s61 nm0
      replace st := st.go s61 go0
      replace sj44 := sj44.go s61 go0
      replace w := s61.ok
      refine h_nil ?_
      refine ⟨B55, p59, ([x52] : List Int), w, rfl, m62, (P.bind).mono (fun x67 P => ?_) (fun _ z => z)⟩
      refine fun v71 B68 H69 s70 m62 r72 => ?_
      replace m10 := m10.step s70 (nm1 ne66)
      replace st := st.go s70 (go1 (.inr n64))
      replace sj44 := sj44.go s70 (go1 (.inr n65))
      replace w := s70.ok
      cases r72
      refine h_bl ?_
      refine h_iteN (fun c1 => ?_) (fun c1 => ?_)
      · replace P := P.iteF c1
        refine h_iteT ?_
        refine h_ret ?_
        refine h_c ?_
        exact (kr49 _ P.ok) _ _ _ st (Rep.bl _)
      · replace P := P.iteT c1
        refine h_tnot ?_
        refine h_tB ?_
        refine h_call ?_
        refine h_cons ?_
        refine h_lst ?_
        refine h_cons ?_
        refine h_var rfl ?_
        refine h_nil ?_
        refine h_newM w (ds := (([x52] : List Int)).map enc) (K := K) (.cons (Rep.int _) .nil) (fun p73 H74 hn77 s75 m76 => ?_) (by show 1 ≤ sizeLine; decide)
        have n78 := st.nn hn77
        have n79 := sj44.nn hn77
        have ne80 := Mu.ne m10 hn77
        replace m10 := m10.step s75 nm0
        replace st := st.go s75 go0
        replace sj44 := sj44.go s75 go0
        replace w := s75.ok
        refine h_nil ?_
        refine ⟨B68, p73, ([x52] : List Int), w, rfl, m76, (P.bind).mono (fun x81 P => ?_) (fun _ z => z)⟩
        refine fun v85 B82 H83 s84 m76 r86 => ?_
        replace m10 := m10.step s84 (nm1 ne80)
        replace st := st.go s84 (go1 (.inr n78))
        replace sj44 := sj44.go s84 (go1 (.inr n79))
        replace w := s84.ok
        cases r86
        refine h_bl ?_
        refine h_iteN (fun c1 => ?_) (fun c1 => ?_)
        · replace P := P.iteF c1
          refine h_ret ?_
          refine h_c ?_
          exact (kr49 _ P.ok) _ _ _ st (Rep.bl _)
        · replace P := P.iteT c1
          refine h_next ?_
          refine h_nx ?_
          exact kk48 () _ _ ⟨_, _, sj44, rfl⟩ P.ok
    · rintro a87 _ H89 ⟨B88, o91, s90, rfl⟩ P
      replace m10 := m10.step s90 nm0
      replace st := st.go s90 go0
      replace w := s90.ok
      refine h_nx ?_
      refine h_ret ?_
      refine h_and ?_
      refine h_call ?_
      refine h_cons ?_
      refine h_var rfl ?_
      refine h_nil ?_
      refine ⟨B88, p7, ([x1] : List Int), w, rfl, m10, (P.bind).mono (fun x92 P => ?_) (fun _ z => z)⟩
      refine fun v96 B93 H94 s95 m10 r97 => ?_
      replace st := st.go s95 (go1 (.inr n12))
      replace w := s95.ok
      cases r97
      refine h_bl ?_
      refine h_ite (fun c1 => ?_) (fun c1 => ?_)
      · replace P := P.iteT c1
        refine h_call ?_
        refine h_cons ?_
        refine h_var rfl ?_
        refine h_nil ?_
        refine ⟨B93, p7, x92.2, w, rfl, m10, (P.bind).mono (fun x98 P => ?_) (fun _ z => z)⟩
        refine fun v102 B99 H100 s101 m10 r103 => ?_
        replace st := st.go s101 (go1 (.inr n12))
        replace w := s101.ok
        cases r103
        exact P.ok _ _ _ st (Rep.bl _)
      · replace P := P.iteF c1
        exact P.ok _ _ _ st (Rep.bl _)
end
end A
set_option Elab.async false
set_option linter.all false
set_option maxRecDepth 100000
set_option maxHeartbeats 2000000
namespace Y
open PySem PySem.Spec PyProof.Rows L2
open Enc (enc)
/-! # plain mathematics over mirrors -/
/-- m gives a value, and φ of it -/
def Ok {α : Type} (m : Res α) (φ : α → Prop) : Prop := ∃ a, m = .ok a ∧ φ a
section
variable {α β : Type} {m : Res α} {φ φ' : α → Prop} {k : α → Res β} {ψ : β → Prop} {a : α} {c : Bool} {i : Int} {l : List α}
theorem Ok.pure (h : φ a) : Ok (.ok a) φ := ⟨a, rfl, h⟩
theorem Ok.bind (h : Ok m φ) (hk : ∀ a, φ a → Ok (k a) ψ) : Ok (m.bind k) ψ := by
  obtain ⟨a, e, p⟩ := h
  rw [e]
  exact hk a p
theorem Ok.bindE (e : m = .ok a) (h : Ok (k a) ψ) : Ok (m.bind k) ψ := by rw [e]; exact h
theorem Ok.mono (h : Ok m φ) (hk : ∀ a, φ a → φ' a) : Ok m φ' := by
  obtain ⟨a, e, p⟩ := h
  exact ⟨a, e, hk a p⟩
theorem Ok.ite {m m' : Res α} (h1 : c = true → Ok m φ) (h2 : c = false → Ok m' φ) : Ok (if c = true then m else m') φ := by
  cases c
  · rw [if_neg Bool.false_ne_true]; exact h2 rfl
  · rw [if_pos rfl]; exact h1 rfl
theorem Ok.iteT {m m' : Res α} (hc : c = true) (h : Ok m φ) : Ok (if c = true then m else m') φ := by
  rw [if_pos hc]; exact h
theorem Ok.iteF {m m' : Res α} (hc : c = false) (h : Ok m' φ) : Ok (if c = true then m else m') φ := by
  rw [hc, if_neg Bool.false_ne_true]; exact h
theorem Ok.guard {p : Prop} [Decidable p] (hp : p) (h : Ok m φ) : Ok (guardR p m) φ := by
  unfold guardR; rw [if_pos hp]; exact h
theorem Ok.lt {d : α} (h : Ok (k d) ψ) : Ok (Y.lt d k) ψ := h
theorem Ok.noErr (h : Ok m φ) : Ok m.noErr φ := by
  obtain ⟨a, e, p⟩ := h
  exact ⟨a, by rw [e]; rfl, p⟩
theorem atI_in (h0 : 0 ≤ i) (h1 : i < (l.length : Int)) : ∃ x, atI l i = some x ∧ l[i.toNat]? = some x ∧ x ∈ l := by
  have h2 : i.toNat < l.length := by omega
  have e : ixN l.length i = some i.toNat := by unfold ixN; rw [if_pos h0, if_pos h1]
  refine ⟨l[i.toNat], ?_, List.getElem?_eq_getElem h2, List.getElem_mem h2⟩
  unfold atI
  rw [e]
  exact List.getElem?_eq_getElem h2
theorem Ok.ix (h0 : 0 ≤ i) (h1 : i < (l.length : Int)) (h : ∀ x, x ∈ l → l[i.toNat]? = some x → Ok (k x) ψ) : Ok ((ixR l i).bind k) ψ := by
  obtain ⟨x, e, e2, m⟩ := atI_in h0 h1
  unfold ixR
  rw [e]
  exact h x m e2
theorem Ok.ixs {x : α} (e : ixR l i = .ok x) (h : Ok (k x) ψ) : Ok ((ixR l i).bind k) ψ := by rw [e]; exact h
/-- an item of a written list -/
theorem Ok.ixm (h0 : 0 ≤ i) (h1 : i < (l.length : Int)) (h : ∀ x, x ∈ l → Ok (k x) ψ) : Ok ((ixR l i).bind k) ψ := Ok.ix h0 h1 fun x m _ => h x m
/-- a loop that keeps I and ends by itself -/
theorem Ok.for {S R : Type} {f : α → S → Res (Fl S R)} (I : S → Prop) (hf : ∀ x s, x ∈ l → I s → Ok (f x s) fun r => ∃ s', r = .nx s' ∧ I s') : ∀ {s : S}, I s → Ok (forR l s f) fun r => ∃ s', r = .nx s' ∧ I s' := by
  induction l with
  | nil => intro s h; exact ⟨_, rfl, s, rfl, h⟩
  | cons x xs ih =>
    intro s h
    refine Ok.bind (hf x s List.mem_cons_self h) ?_
    rintro r ⟨s', rfl, h'⟩
    exact ih (fun y s m h => hf y s (List.mem_cons_of_mem _ m) h) h'
/-- a comprehension: each turn gives a good thing and keeps I -/
theorem Ok.compL {S R : Type} {f : α → S → Res (Option R × S)} (I : S → Prop) (G : R → Prop) (hf : ∀ x s, x ∈ l → I s → Ok (f x s) fun r => I r.2 ∧ ∀ b, r.1 = some b → G b) : ∀ {s : S}, I s → Ok (compL l s f) fun r => I r.2 ∧ ∀ b ∈ r.1, G b := by
  induction l with
  | nil => intro s h; exact ⟨_, rfl, h, fun _ m => nomatch m⟩
  | cons x xs ih =>
    intro s h
    refine Ok.bind (hf x s List.mem_cons_self h) ?_
    rintro ⟨o, s'⟩ ⟨h', g⟩
    refine Ok.bind (ih (fun y s m h => hf y s (List.mem_cons_of_mem _ m) h) h') ?_
    rintro ⟨bs, s2⟩ ⟨h2, g2⟩
    refine ⟨_, rfl, h2, fun b m => ?_⟩
    cases o with
    | none => exact g2 b m
    | some b0 =>
      rcases List.mem_cons.mp m with e | m
      · rw [e]; exact g b0 rfl
      · exact g2 b m
theorem Ok.comp {S R : Type} {f : α → S → Res (Option R × S)} {s : S} (hl : l.length ≤ 1000000) (I : S → Prop) (G : R → Prop) (hf : ∀ x s, x ∈ l → I s → Ok (f x s) fun r => I r.2 ∧ ∀ b, r.1 = some b → G b) (h : I s) : Ok (compR l s f) fun r => I r.2 ∧ ∀ b ∈ r.1, G b := Ok.guard hl (Ok.compL I G hf h)
/-- .. and no more things than turns -/
theorem Ok.compLen {S R : Type} {f : α → S → Res (Option R × S)} {s : S} (hl : l.length ≤ 1000000) (I : S → Prop) (G : R → Prop) (hf : ∀ x s, x ∈ l → I s → Ok (f x s) fun r => I r.2 ∧ ∀ b, r.1 = some b → G b) (h : I s) : Ok (compR l s f) fun r => I r.2 ∧ (∀ b ∈ r.1, G b) ∧ r.1.length ≤ l.length := by
  refine Ok.guard hl ?_
  clear hl
  induction l generalizing s with
  | nil => exact ⟨_, rfl, h, (fun _ m => nomatch m), Nat.le_refl _⟩
  | cons x xs ih =>
    refine Ok.bind (hf x s List.mem_cons_self h) ?_
    rintro ⟨o, s'⟩ ⟨h', g⟩
    refine Ok.bind (ih (fun y s m h => hf y s (List.mem_cons_of_mem _ m) h) h') ?_
    rintro ⟨bs, s2⟩ ⟨h2, g2, g3⟩
    refine ⟨_, rfl, h2, fun b m => ?_, ?_⟩
    · cases o with
      | none => exact g2 b m
      | some b0 =>
        rcases List.mem_cons.mp m with e | m
        · rw [e]; exact g b0 rfl
        · exact g2 b m
    · cases o with
      | none => exact Nat.le_succ_of_le g3
      | some b0 => exact Nat.succ_le_succ g3
end
theorem log2_small {n b : Nat} (h : n < 2 ^ b) (h0 : 0 < b) : n.log2 < b := PySem.Flt.log2_lt_of h0 h
theorem mulW {i j : Int} {a b : Nat} (ha : i.natAbs < 2 ^ a) (hb : j.natAbs < 2 ^ b) (h0 : 0 < a := by decide) (h1 : 0 < b := by decide) (h : a + b ≤ 1000000 := by decide) : CMulW i j := wide_mul ha hb h0 h1 h
theorem divW {i j : Int} {b : Nat} (h : 0 < j) (hb : j.natAbs < 2 ^ b) (h0 : 0 < b := by decide) (h9 : b ≤ 9000 := by decide) : CDivW i j := wide_div h hb h0 h9
theorem cutL_mem {α : Type} {l : List α} {lo hi : Option Int} {x : α} (h : x ∈ cutL l lo hi) : x ∈ l := List.mem_of_mem_drop (List.mem_of_mem_take h)
theorem cutL_len {α : Type} {l : List α} {lo hi : Option Int} : (cutL l lo hi).length ≤ l.length := by
  unfold cutL
  rw [List.length_take, List.length_drop]
  omega
mutual
theorem eqv_refl : ∀ d : D, flatD d = true → PyData.eqv (pyD d) (pyD d) = true
  | .non, _ => rfl
  | .bl b, _ => by show (b == b) = true; simp
  | .int i, _ => by show (i == i) = true; simp
  | .str x, _ => by show (x == x) = true; simp
  | .lst ds, h => eqvs_refl ds h
  | .tup ds, h => eqvs_refl ds h
  | .dic _, h => nomatch h
theorem eqvs_refl : ∀ ds : List D, flatDs ds = true → PyData.eqvAll (pyDs ds) (pyDs ds) = true
  | [], _ => rfl
  | d :: ds, h => by
    have h' : (flatD d && flatDs ds) = true := h
    rw [Bool.and_eq_true] at h'
    show (PyData.eqv (pyD d) (pyD d) && PyData.eqvAll (pyDs ds) (pyDs ds)) = true
    rw [eqv_refl d h'.1, eqvs_refl ds h'.2]
    rfl
end
theorem eqD_refl {d : D} (h : flatD d = true) : eqD d d = true := eqv_refl d h
theorem flat_ints : ∀ l : List Int, flatDs (l.map enc) = true
  | [] => rfl
  | i :: l => by show (flatD (.int i) && flatDs (l.map enc)) = true; rw [flat_ints l]; rfl

mutual
/-- data that may be compared: no dict, texts plain, not deep -/
def eqOk (n : Nat) : D → Bool
  | .lst ds => match n with | 0 => false | n + 1 => eqOks n ds
  | .tup ds => match n with | 0 => false | n + 1 => eqOks n ds
  | .dic _ => false
  | .str x => PyData.strOk x
  | _ => true
def eqOks (n : Nat) : List D → Bool
  | [] => true
  | d :: ds => eqOk n d && eqOks n ds
end
mutual
theorem eqOk_flat : ∀ (d : D) (n : Nat), eqOk n d = true → flatD d = true ∧ (pyD d).canLay0 = true ∧ (pyD d).depth ≤ n
  | .non, _, _ => ⟨rfl, rfl, Nat.zero_le _⟩
  | .bl _, _, _ => ⟨rfl, rfl, Nat.zero_le _⟩
  | .int _, _, _ => ⟨rfl, rfl, Nat.zero_le _⟩
  | .str _, _, h => ⟨rfl, h, Nat.zero_le _⟩
  | .lst ds, n + 1, h => let ⟨a, b, c⟩ := eqOks_flat ds n h; ⟨a, b, Nat.succ_le_succ c⟩
  | .tup ds, n + 1, h => let ⟨a, b, c⟩ := eqOks_flat ds n h; ⟨a, b, Nat.succ_le_succ c⟩
  | .lst _, 0, h => nomatch h
  | .tup _, 0, h => nomatch h
  | .dic _, _, h => nomatch h
theorem eqOks_flat : ∀ (ds : List D) (n : Nat), eqOks n ds = true → flatDs ds = true ∧ PyData.canLayAll0 (pyDs ds) = true ∧ PyData.depthAll (pyDs ds) ≤ n
  | [], _, _ => ⟨rfl, rfl, Nat.zero_le _⟩
  | d :: ds, n, h => by
    have h' : (eqOk n d && eqOks n ds) = true := h
    rw [Bool.and_eq_true] at h'
    obtain ⟨a, b, c⟩ := eqOk_flat d n h'.1
    obtain ⟨a', b', c'⟩ := eqOks_flat ds n h'.2
    refine ⟨?_, ?_, ?_⟩
    · show (flatD d && flatDs ds) = true; rw [a, a']; rfl
    · show (PyData.canLay0 (pyD d) && PyData.canLayAll0 (pyDs ds)) = true; rw [b, b']; rfl
    · exact Nat.max_le.mpr ⟨c, c'⟩
end
theorem okEq_of {d e : D} (h : eqOk 20 d = true) (h' : eqOk 20 e = true) : okEq d e := by
  obtain ⟨a, b, c⟩ := eqOk_flat d 20 h
  obtain ⟨a', b', c'⟩ := eqOk_flat e 20 h'
  refine ⟨a, a', ?_, ?_⟩
  · unfold SeqAt.shaped; rw [b, decide_eq_true (Nat.le_trans c (by decide))]; rfl
  · unfold SeqAt.shaped; rw [b', decide_eq_true (Nat.le_trans c' (by decide))]; rfl
theorem eqOk_ints : ∀ (l : List Int) (n : Nat), eqOks n (l.map enc) = true
  | [], _ => rfl
  | i :: l, n => by show (eqOk n (.int i) && eqOks n (l.map enc)) = true; rw [eqOk_ints l n]; rfl
/-- a comprehension without a state whose turns give values -/
theorem compL_map {α β : Type} {f : α → Unit → Res (Option β × Unit)} {g : α → β} : ∀ {l : List α}, (∀ x ∈ l, f x () = .ok (some (g x), ())) → compL l () f = .ok (l.map g, ())
  | [], _ => rfl
  | x :: xs, h => by
    unfold compL
    rw [h x List.mem_cons_self]
    show ((compL xs () f).bind fun q => .ok (g x :: q.1, q.2)) = _
    rw [compL_map fun y m => h y (List.mem_cons_of_mem _ m)]
    rfl
theorem compR_map {α β : Type} {f : α → Unit → Res (Option β × Unit)} {g : α → β} {l : List α} (hl : l.length ≤ 1000000) (h : ∀ x ∈ l, f x () = .ok (some (g x), ())) : compR l () f = .ok (l.map g, ()) := by
  unfold compR guardR
  rw [if_pos hl, compL_map h]
def smallD (d : D) : Prop := match d with | .lst ds => ds.length ≤ 1000000 | _ => True
end Y

set_option Elab.async false
set_option linter.all false
set_option maxRecDepth 100000
set_option maxHeartbeats 2000000
namespace A
open PySem PySem.Spec PyProof.Rows L2 Y
open Y.Enc (enc)
def isBytes (d : D) : Bool := match d with
  | .lst ds => ds.all fun d => isWhole d 0 255
  | _ => false
theorem is_bytes_ok {d : D} (h : smallD d) : m_is_bytes d = .ok (isBytes d) := by
  unfold m_is_bytes
  cases d with
  | lst ds =>
    rw [if_pos (show isA "list" (.lst ds) = true from (by decide +kernel : isS "list" "list" = true))]
    show ((compR ds () _).bind _) = _
    rw [compR_map (g := fun x => isWhole x 0 255) h (fun x _ => rfl)]
    show Res.ok ((ds.map fun x => isWhole x 0 255).all id) = _
    rw [List.all_map]
    rfl
  | _ => rfl
theorem small_ints {l : List Int} (h : l.length ≤ 1000000) : smallD (enc l) := by show (l.map enc).length ≤ 1000000; rw [List.length_map]; exact h
/-- a state of draws -/
def Gd (st : List Int) : Prop := st.length = 1 ∨ st.length = 3
theorem setR_in {α : Type} {l : List α} {i : Int} {x : α} (h0 : 0 ≤ i) (h1 : i < (l.length : Int)) : setR l i x = .ok (l.set i.toNat x) := by
  unfold setR
  have e : ixN l.length i = some i.toNat := by unfold ixN; rw [if_pos h0, if_pos h1]
  rw [e]
theorem Ok.set {α β : Type} {l : List α} {i : Int} {x : α} {k : List α → Res β} {ψ : β → Prop} (h0 : 0 ≤ i) (h1 : i < (l.length : Int)) (h : ∀ l', l'.length = l.length → Ok (k l') ψ) : Ok ((setR l i x).bind k) ψ := by
  rw [setR_in h0 h1]
  exact h _ (List.length_set ..)
theorem digit_ok {st : List Int} {b : Int} (h : Gd st) (hb : 0 < b) (hb2 : b.natAbs < 2 ^ 4000) : Ok (l_digit st b) fun r => (0 ≤ r.1 ∧ r.1 < b) ∧ r.2.length = 3 := by
  unfold l_digit
  refine Ok.bind (φ := fun l => l.length = 3) (Ok.ite (fun c => ?_) (fun c => ?_)) fun l hl => ?_
  · have e : st.length = 1 := by have := of_decide_eq_true c; omega
    refine Ok.ix (by decide) (by omega) fun x _ _ => Ok.guard (by simp [e]) (Ok.pure (by simp [e]))
  · have e : ¬ (st.length : Int) = 1 := of_decide_eq_false c
    refine Ok.pure ?_
    rcases h with h | h
    · exact absurd (by omega) e
    · exact h
  refine Ok.ix (by decide) (by omega) fun x _ _ => Ok.ite (fun c => ?_) (fun c => ?_)
  · refine Ok.ix (by decide) (by omega) fun y _ _ => Ok.guard hb (Ok.lt (Ok.ix (by decide) (by omega) fun z _ _ => Ok.guard (divW hb hb2) (Ok.set (by decide) (by omega) fun l' e => Ok.pure ⟨⟨Int.emod_nonneg _ (Int.ne_of_gt hb), Int.emod_lt_of_pos _ hb⟩, e.trans hl⟩)))
  · refine Ok.ix (by decide) (by omega) fun y _ _ => Ok.set (by decide) (by omega) fun l' e => Ok.ix (by decide) (by omega) fun z _ _ => Ok.ix (by decide) (by omega) fun u _ _ => Ok.lt ?_
    generalize hn : (((z + 7919 * u) + 1) * 48271) % 2147483647 = n
    have hn1 : 0 ≤ n ∧ n < 2147483647 := by subst hn; exact ⟨Int.emod_nonneg _ (by decide), Int.emod_lt_of_pos _ (by decide)⟩
    refine Ok.guard (mulW (a := 32) (b := 32) (by omega) (by omega)) (Ok.lt ?_)
    generalize hm : (n * (n / 1009 + 69621)) % 2147483647 = m
    have hm1 : 0 ≤ m ∧ m < 2147483647 := by subst hm; exact ⟨Int.emod_nonneg _ (by decide), Int.emod_lt_of_pos _ (by decide)⟩
    refine Ok.guard (mulW (a := 32) (b := 32) (by omega) (by omega)) (Ok.guard hb (Ok.pure ⟨⟨Int.emod_nonneg _ (Int.ne_of_gt hb), Int.emod_lt_of_pos _ hb⟩, e.trans hl⟩))
theorem gd3 {st : List Int} (h : st.length = 3) : Gd st := .inr h
/-- a draw -/
theorem dg {β : Type} {st : List Int} {b : Int} {k : Int × List Int → Res β} {ψ : β → Prop} (h : Gd st) (hb : 0 < b) (hb2 : b.natAbs < 2 ^ 4000) (hk : ∀ x s, 0 ≤ x → x < b → s.length = 3 → Ok (k (x, s)) ψ) : Ok ((l_digit st b).bind k) ψ :=
  Ok.bind (digit_ok h hb hb2) fun r p => hk r.1 r.2 p.1.1 p.1.2 p.2
theorem big {b : Int} {n : Nat} (h : b.natAbs < 2 ^ n) (hn : n ≤ 4000) : b.natAbs < 2 ^ 4000 := Nat.lt_of_lt_of_le h (Nat.pow_le_pow_right (by decide) hn)
theorem bg {b : Int} (h : b.natAbs < 18446744073709551616) : b.natAbs < 2 ^ 4000 := big (n := 64) h (by decide)
theorem truth_ok {b : Bool} : l_truth b b = .ok true := by cases b <;> rfl
theorem great_ok {st : List Int} (h : Gd st) : Ok (l_great st) fun r => r.2.length = 3 := by
  unfold l_great
  have e4 : rngI 0 4 = [0, 1, 2, 3] := rfl
  rw [e4]
  have step : ∀ (x : Int) (a : Int × List Int), Gd a.2 → (0 ≤ a.1) → Ok ((l_digit a.2 (1000000000 + 7)).bind fun x17 => lt (((a.1 * 10000000000) + x17.1) : Int) fun x23 => (.ok (.nx (x23, x17.2)) : Res (Fl (Int × List Int) (Int × List Int)))) fun r => ∃ s', r = .nx s' ∧ s'.2.length = 3 ∧ 0 ≤ s'.1 ∧ s'.1 < a.1 * 10000000000 + 1000000007 := fun x a g ha =>
    dg g (by decide) (bg (by decide)) fun y s h0 h1 hs => Ok.lt ⟨_, rfl, _, rfl, hs, by show 0 ≤ a.1 * 10000000000 + y; omega, by show a.1 * 10000000000 + y < _; omega⟩
  refine Ok.bind (φ := fun r => ∃ s', r = .nx s' ∧ s'.2.length = 3 ∧ 0 ≤ s'.1 ∧ s'.1 < 10 ^ 40) ?_ ?_
  · refine Ok.bind (step 0 (0, st) h (Int.le_refl 0)) ?_
    rintro _ ⟨⟨a1, s1⟩, rfl, h1, p1, q1⟩
    refine Ok.bind (step 1 (a1, s1) (gd3 h1) p1) ?_
    rintro _ ⟨⟨a2, s2⟩, rfl, h2, p2, q2⟩
    refine Ok.bind (step 2 (a2, s2) (gd3 h2) p2) ?_
    rintro _ ⟨⟨a3, s3⟩, rfl, h3, p3, q3⟩
    refine Ok.bind (step 3 (a3, s3) (gd3 h3) p3) ?_
    rintro _ ⟨⟨a4, s4⟩, rfl, h4, p4, q4⟩
    refine ⟨_, rfl, _, rfl, h4, p4, ?_⟩
    simp only at *
    omega
  · rintro _ ⟨⟨a, s⟩, rfl, hs, p, q⟩
    simp only at *
    refine dg (gd3 hs) (by decide) (bg (by decide)) fun y s' h0 h1 hs' => Ok.ixm h0 h1 fun z m => Ok.guard ?_ (Ok.pure hs')
    refine mulW (a := 140) (b := 2) (by omega) ?_
    simp at m
    rcases m with rfl | rfl <;> decide

theorem whole_int {i lo hi : Int} : isWhole (.int i) lo hi = (decide (lo ≤ i) && decide (i ≤ hi)) := rfl
theorem whole_right_ok {st : List Int} (h : Gd st) : Ok (l_whole_right st) fun r => r.1 = true ∧ r.2.length = 3 := by
  unfold l_whole_right
  refine dg h (by decide) (bg (by decide)) fun x1 s1 a1 b1 h1 => ?_
  refine Ok.bind (great_ok (gd3 h1)) fun ⟨x7, s7⟩ h7 => ?_
  refine dg (gd3 h7) (by decide) (bg (by decide)) fun x18 s18 a18 b18 h18 => ?_
  refine Ok.ixm a18 b18 fun x28 _ => ?_
  refine dg (gd3 h18) (by decide) (bg (by decide)) fun x32 s32 a32 b32 h32 => ?_
  refine dg (gd3 h32) (by decide) (bg (by decide)) fun x43 s43 a43 b43 h43 => ?_
  refine Ok.ixm a43 b43 fun x53 _ => Ok.lt ?_
  refine Ok.bind (great_ok (gd3 h43)) fun ⟨x58, s58⟩ h58 => ?_
  refine dg (gd3 h58) (by decide) (bg (by decide)) fun x69 s69 a69 b69 h69 => ?_
  refine Ok.ixm a69 b69 fun x79 _ => ?_
  refine Ok.bindE (a := decide (x28 ≤ x79) && decide (x79 ≤ x28 + x53)) rfl (Ok.bindE truth_ok (Ok.iteT rfl (Ok.guard (log2_small (b := 20) (by omega) (by decide) |> fun z => Nat.lt_trans z (by decide)) ?_)))
  refine dg (gd3 h69) (by decide) (bg (by decide)) fun x122 s122 a122 b122 h122 => ?_
  refine Ok.ixm a122 b122 fun x132 m => ?_
  have e : ∀ lo hi, isWhole x132 lo hi = false := by
    simp only [List.mem_cons, List.not_mem_nil, or_false] at m
    rcases m with rfl | rfl | rfl | rfl | rfl | rfl | rfl | rfl | rfl <;> intro _ _ <;> rfl
  show Ok (if decide (isWhole x132 x28 (x28 + x53) = false) = true then _ else _) _
  refine Ok.iteT (decide_eq_true (e _ _)) ?_
  exact Ok.pure ⟨decide_eq_true (e 0 1), h122⟩
def Byt (i : Int) : Prop := 0 ≤ i ∧ i ≤ 255
theorem row_ok {st : List Int} (h : Gd st) : Ok (l_row st) fun r => (∀ b ∈ r.1, Byt b) ∧ r.1.length ≤ 61 ∧ r.2.length = 3 := by
  unfold l_row
  refine dg h (by decide) (bg (by decide)) fun x1 s1 a1 b1 h1 => ?_
  refine dg (gd3 h1) (by decide) (bg (by decide)) fun x7 s7 a7 b7 h7 => ?_
  refine dg (gd3 h7) (by decide) (bg (by decide)) fun x18 s18 a18 b18 h18 => ?_
  refine Ok.ixm a18 b18 fun x28 m => ?_
  have hn : 0 ≤ x28 ∧ x28 ≤ 61 := by
    simp only [List.mem_cons, List.not_mem_nil, or_false] at m
    rcases m with rfl | rfl | rfl | rfl <;> omega
  refine Ok.guard (by omega) ?_
  refine Ok.bind (φ := fun r => r.2.length = 3 ∧ (∀ b ∈ r.1, Byt b) ∧ r.1.length ≤ 61) ?_ fun ⟨l, s⟩ ⟨p1, p2, p3⟩ => Ok.pure ⟨p2, p3, p1⟩
  refine (Ok.compLen (by rw [rngI_len]; omega) (fun s => s.length = 3) Byt (fun x s _ hs => ?_) h18).mono fun r ⟨q1, q2, q3⟩ => ⟨q1, q2, by rw [rngI_len] at q3; omega⟩
  refine dg (gd3 hs) (by decide) (bg (by decide)) fun y1 t1 c1 d1 e1 => ?_
  refine dg (gd3 e1) (by decide) (bg (by decide)) fun y2 t2 c2 d2 e2 => ?_
  refine dg (gd3 e2) (by decide) (bg (by decide)) fun y3 t3 c3 d3 e3 => ?_
  refine Ok.ixm (by show 0 ≤ y3 / 3; omega) (by show y3 / 3 < 2; omega) fun z m => Ok.pure ⟨e3, fun b hb => ?_⟩
  cases hb
  simp only [List.mem_cons, List.not_mem_nil, or_false] at m
  rcases m with rfl | rfl <;> exact ⟨by omega, by omega⟩
theorem bytes_ints {l : List Int} (h : ∀ b ∈ l, Byt b) : isBytes (enc l) = true := by
  show (l.map enc).all (fun d => isWhole d 0 255) = true
  rw [List.all_map, List.all_eq_true]
  intro b m
  obtain ⟨h0, h1⟩ := h b m
  show (decide (0 ≤ b) && decide (b ≤ 255)) = true
  rw [decide_eq_true h0, decide_eq_true h1]; rfl

theorem bytes_three {a b : List Int} {x : D} (ha : ∀ i ∈ a, Byt i) (hb : ∀ i ∈ b, Byt i) : isBytes (enc (((a.map enc : List D) ++ ([x] : List D)) ++ (b.map enc : List D))) = isWhole x 0 255 := by
  have e1 : ∀ {l : List Int}, (∀ i ∈ l, Byt i) → (l.map enc : List D).all (fun d => isWhole d 0 255) = true := fun {l} h => bytes_ints h
  show (List.map (fun d : D => d) (((a.map enc : List D) ++ [x]) ++ (b.map enc : List D))).all (fun d => isWhole d 0 255) = _
  rw [List.map_id', List.all_append, List.all_append, e1 ha, e1 hb]
  simp
theorem rows_right_ok {st : List Int} (h : Gd st) : Ok (l_rows_right st) fun r => r.1 = true ∧ r.2.length = 3 := by
  unfold l_rows_right
  refine Ok.bind (row_ok h) fun ⟨row, s1⟩ ⟨hr, hl, h1⟩ => ?_
  have hsm : smallD (enc row) := small_ints (by simp only at hl; omega)
  refine Ok.bindE ((is_bytes_ok hsm).trans (congrArg Res.ok (bytes_ints hr))) (Ok.iteF rfl ?_)
  have fl : flatD (enc row) = true := flat_ints row
  refine Ok.guard (okEq_of (eqOk_ints row 19) (eqOk_ints row 19)) ?_
  rw [eqD_refl fl]
  refine Ok.iteF rfl ?_
  refine Ok.bind (great_ok (gd3 h1)) fun ⟨x32, s32⟩ h32 => ?_
  refine dg (gd3 h32) (by decide) (bg (by decide)) fun x48 s48 a48 b48 h48 => ?_
  refine Ok.ixm a48 b48 fun x58 m => ?_
  refine dg (gd3 h48) (by show (0 : Int) < row.length + 1; omega) (bg (by show ((row.length : Int) + 1).natAbs < _; simp only at hl; omega)) fun x66 s66 a66 b66 h66 => ?_
  have c1 := cutL_len (l := row) (lo := none) (hi := some x66)
  have c2 := cutL_len (l := row) (lo := some x66) (hi := none)
  simp only at hl
  refine Ok.guard (by simp only [List.length_map, List.length_singleton]; omega) (Ok.guard (by simp only [List.length_append, List.length_map, List.length_singleton]; omega) ?_)
  refine Ok.bind (φ := fun _ => True) ((Ok.comp (by simp only; omega) (fun _ => True) (fun _ => True) (fun x s _ _ => Ok.pure ⟨trivial, fun _ _ => trivial⟩) trivial).mono fun _ _ => trivial) fun ⟨prs, _⟩ _ => ?_
  show Ok ((l_digit s66 10).bind _) _
  refine dg (gd3 h66) (by decide) (bg (by decide)) fun x196 s196 a196 b196 h196 => ?_
  refine Ok.ixm a196 b196 fun x206 m2 => ?_
  have bad : m_is_bytes x206 = .ok false := by
    simp only [List.mem_cons, List.not_mem_nil, or_false] at m2
    rcases m2 with rfl | rfl | rfl | rfl | rfl | rfl | rfl | rfl | rfl | rfl
    all_goals first | rfl | exact is_bytes_ok (by show (1 : Nat) ≤ 1000000; decide)
  refine Ok.bind (φ := fun b => b = isWhole x58 0 255) ?_ fun a218 e218 => ?_
  · simp only [List.mem_cons, List.not_mem_nil, or_false] at m
    rcases m with rfl | rfl | rfl | rfl | rfl | rfl | rfl | rfl | rfl | rfl | rfl <;> exact ⟨_, rfl, rfl⟩
  subst e218
  have hs3 : smallD (enc (((cutL row none (some x66)).map enc : List D) ++ ([x58] : List D) ++ ((cutL row (some x66) none).map enc : List D))) := by
    show (List.map enc _).length ≤ 1000000
    simp only [List.length_map, List.length_append, List.length_singleton]; omega
  refine Ok.bindE ((is_bytes_ok hs3).trans (congrArg Res.ok (bytes_three (fun i m => hr i (cutL_mem m)) (fun i m => hr i (cutL_mem m))))) ?_
  refine Ok.bindE truth_ok (Ok.iteT rfl ?_)
  refine Ok.bindE bad (Ok.iteT rfl ?_)
  refine Ok.bindE ((is_bytes_ok hsm).trans (congrArg Res.ok (bytes_ints hr))) (Ok.pure ⟨rfl, h196⟩)
theorem law_ok (ns : List Int) (h : ns.length ≤ 63) : m_law ns = .ok true := by
  have hc : Ok (l_cell_at ns 0) fun _ => True := by
    unfold l_cell_at
    refine Ok.ite (fun c => Ok.ix (by decide) (of_decide_eq_true c) fun x _ _ => Ok.pure trivial) fun _ => Ok.pure trivial
  have q : Ok (m_law ns) fun r => r = true := by
    unfold m_law
    refine Ok.bind hc fun x1 _ => Ok.guard ?_ ?_
    · have := cutL_len (l := ns) (lo := some 1) (hi := some 13)
      simp only [List.length_singleton]; omega
    refine Ok.bind (Ok.for (fun _ => True) (fun x s _ _ => ?_) trivial) ?_
    · refine Ok.bind (whole_right_ok (.inl rfl)) fun ⟨b, s1⟩ ⟨e, _⟩ => Ok.iteT e ?_
      exact Ok.bind (rows_right_ok (.inl rfl)) fun ⟨b, s1⟩ ⟨e, _⟩ => Ok.iteT e ⟨_, rfl, (), rfl, trivial⟩
    · rintro _ ⟨_, rfl, _⟩
      refine Ok.bind (whole_right_ok (.inl rfl)) fun ⟨b, s1⟩ ⟨e, hs⟩ => Ok.iteT e ?_
      exact Ok.bind (rows_right_ok (gd3 hs)) fun ⟨b, s1⟩ ⟨e, _⟩ => Ok.pure e
  obtain ⟨a, e, rfl⟩ := q
  exact e
end A

set_option Elab.async false
set_option linter.all false
set_option maxRecDepth 100000
set_option maxHeartbeats 4000000
namespace A
open PySem PySem.Spec PyProof.Rows L2 Y
open Y.Enc (enc)
theorem all_mk {l : PySem.W.OpenLaw} {w : World} {K : PySem.W.Frag} {h : Heap} {mg : Str → Option Value} {fa : Addr} (X : K.In h) (G : h.Ns mainGlobals mg) (hfa : mg "law" = some (.ref fa))
    {f_is_whole : Addr} {od_is_whole an_is_whole : Option Addr} {sl_is_whole : Array (Option Value)} {oc_is_whole kV_is_whole dc_is_whole pm_is_whole cd_is_whole ct_is_whole : Value}
    (a_is_whole : PySem.W.nsIn K mainGlobals "is_whole" = some (some (.ref f_is_whole))) (l_is_whole : K.lookup f_is_whole = some ⟨oc_is_whole, od_is_whole, .func (PySem.W.fnOf "is_whole" "is_whole" (defArgs s_is_whole) (defBody s_is_whole) (defScope s_is_whole) .none kV_is_whole dc_is_whole pm_is_whole an_is_whole cd_is_whole ct_is_whole), sl_is_whole⟩) (c_is_whole : PySem.W.codeIn K cd_is_whole "is_whole" = true) (k_is_whole : PySem.W.keepIn K (.ref f_is_whole) = true)
    {f_is_bytes : Addr} {od_is_bytes an_is_bytes : Option Addr} {sl_is_bytes : Array (Option Value)} {oc_is_bytes kV_is_bytes dc_is_bytes pm_is_bytes cd_is_bytes ct_is_bytes : Value}
    (a_is_bytes : PySem.W.nsIn K mainGlobals "is_bytes" = some (some (.ref f_is_bytes))) (l_is_bytes : K.lookup f_is_bytes = some ⟨oc_is_bytes, od_is_bytes, .func (PySem.W.fnOf "is_bytes" "is_bytes" (defArgs s_is_bytes) (defBody s_is_bytes) (defScope s_is_bytes) .none kV_is_bytes dc_is_bytes pm_is_bytes an_is_bytes cd_is_bytes ct_is_bytes), sl_is_bytes⟩) (c_is_bytes : PySem.W.codeIn K cd_is_bytes "is_bytes" = true) (k_is_bytes : PySem.W.keepIn K (.ref f_is_bytes) = true)
    {f__law_cell_at : Addr} {od__law_cell_at an__law_cell_at : Option Addr} {sl__law_cell_at : Array (Option Value)} {oc__law_cell_at kV__law_cell_at dc__law_cell_at pm__law_cell_at cd__law_cell_at ct__law_cell_at : Value}
    (a__law_cell_at : PySem.W.nsIn K mainGlobals "_law_cell_at" = some (some (.ref f__law_cell_at))) (l__law_cell_at : K.lookup f__law_cell_at = some ⟨oc__law_cell_at, od__law_cell_at, .func (PySem.W.fnOf "_law_cell_at" "_law_cell_at" (defArgs s__law_cell_at) (defBody s__law_cell_at) (defScope s__law_cell_at) .none kV__law_cell_at dc__law_cell_at pm__law_cell_at an__law_cell_at cd__law_cell_at ct__law_cell_at), sl__law_cell_at⟩) (c__law_cell_at : PySem.W.codeIn K cd__law_cell_at "_law_cell_at" = true) (k__law_cell_at : PySem.W.keepIn K (.ref f__law_cell_at) = true)
    {f__law_digit : Addr} {od__law_digit an__law_digit : Option Addr} {sl__law_digit : Array (Option Value)} {oc__law_digit kV__law_digit dc__law_digit pm__law_digit cd__law_digit ct__law_digit : Value}
    (a__law_digit : PySem.W.nsIn K mainGlobals "_law_digit" = some (some (.ref f__law_digit))) (l__law_digit : K.lookup f__law_digit = some ⟨oc__law_digit, od__law_digit, .func (PySem.W.fnOf "_law_digit" "_law_digit" (defArgs s__law_digit) (defBody s__law_digit) (defScope s__law_digit) .none kV__law_digit dc__law_digit pm__law_digit an__law_digit cd__law_digit ct__law_digit), sl__law_digit⟩) (c__law_digit : PySem.W.codeIn K cd__law_digit "_law_digit" = true) (k__law_digit : PySem.W.keepIn K (.ref f__law_digit) = true)
    {f__law_truth : Addr} {od__law_truth an__law_truth : Option Addr} {sl__law_truth : Array (Option Value)} {oc__law_truth kV__law_truth dc__law_truth pm__law_truth cd__law_truth ct__law_truth : Value}
    (a__law_truth : PySem.W.nsIn K mainGlobals "_law_truth" = some (some (.ref f__law_truth))) (l__law_truth : K.lookup f__law_truth = some ⟨oc__law_truth, od__law_truth, .func (PySem.W.fnOf "_law_truth" "_law_truth" (defArgs s__law_truth) (defBody s__law_truth) (defScope s__law_truth) .none kV__law_truth dc__law_truth pm__law_truth an__law_truth cd__law_truth ct__law_truth), sl__law_truth⟩) (c__law_truth : PySem.W.codeIn K cd__law_truth "_law_truth" = true) (k__law_truth : PySem.W.keepIn K (.ref f__law_truth) = true)
    {f__law_great : Addr} {od__law_great an__law_great : Option Addr} {sl__law_great : Array (Option Value)} {oc__law_great kV__law_great dc__law_great pm__law_great cd__law_great ct__law_great : Value}
    (a__law_great : PySem.W.nsIn K mainGlobals "_law_great" = some (some (.ref f__law_great))) (l__law_great : K.lookup f__law_great = some ⟨oc__law_great, od__law_great, .func (PySem.W.fnOf "_law_great" "_law_great" (defArgs s__law_great) (defBody s__law_great) (defScope s__law_great) .none kV__law_great dc__law_great pm__law_great an__law_great cd__law_great ct__law_great), sl__law_great⟩) (c__law_great : PySem.W.codeIn K cd__law_great "_law_great" = true) (k__law_great : PySem.W.keepIn K (.ref f__law_great) = true)
    {f__law_whole_right : Addr} {od__law_whole_right an__law_whole_right : Option Addr} {sl__law_whole_right : Array (Option Value)} {oc__law_whole_right kV__law_whole_right dc__law_whole_right pm__law_whole_right cd__law_whole_right ct__law_whole_right : Value}
    (a__law_whole_right : PySem.W.nsIn K mainGlobals "_law_whole_right" = some (some (.ref f__law_whole_right))) (l__law_whole_right : K.lookup f__law_whole_right = some ⟨oc__law_whole_right, od__law_whole_right, .func (PySem.W.fnOf "_law_whole_right" "_law_whole_right" (defArgs s__law_whole_right) (defBody s__law_whole_right) (defScope s__law_whole_right) .none kV__law_whole_right dc__law_whole_right pm__law_whole_right an__law_whole_right cd__law_whole_right ct__law_whole_right), sl__law_whole_right⟩) (c__law_whole_right : PySem.W.codeIn K cd__law_whole_right "_law_whole_right" = true) (k__law_whole_right : PySem.W.keepIn K (.ref f__law_whole_right) = true)
    {f__law_row : Addr} {od__law_row an__law_row : Option Addr} {sl__law_row : Array (Option Value)} {oc__law_row kV__law_row dc__law_row pm__law_row cd__law_row ct__law_row : Value}
    (a__law_row : PySem.W.nsIn K mainGlobals "_law_row" = some (some (.ref f__law_row))) (l__law_row : K.lookup f__law_row = some ⟨oc__law_row, od__law_row, .func (PySem.W.fnOf "_law_row" "_law_row" (defArgs s__law_row) (defBody s__law_row) (defScope s__law_row) .none kV__law_row dc__law_row pm__law_row an__law_row cd__law_row ct__law_row), sl__law_row⟩) (c__law_row : PySem.W.codeIn K cd__law_row "_law_row" = true) (k__law_row : PySem.W.keepIn K (.ref f__law_row) = true)
    {f__law_rows_right : Addr} {od__law_rows_right an__law_rows_right : Option Addr} {sl__law_rows_right : Array (Option Value)} {oc__law_rows_right kV__law_rows_right dc__law_rows_right pm__law_rows_right cd__law_rows_right ct__law_rows_right : Value}
    (a__law_rows_right : PySem.W.nsIn K mainGlobals "_law_rows_right" = some (some (.ref f__law_rows_right))) (l__law_rows_right : K.lookup f__law_rows_right = some ⟨oc__law_rows_right, od__law_rows_right, .func (PySem.W.fnOf "_law_rows_right" "_law_rows_right" (defArgs s__law_rows_right) (defBody s__law_rows_right) (defScope s__law_rows_right) .none kV__law_rows_right dc__law_rows_right pm__law_rows_right an__law_rows_right cd__law_rows_right ct__law_rows_right), sl__law_rows_right⟩) (c__law_rows_right : PySem.W.codeIn K cd__law_rows_right "_law_rows_right" = true) (k__law_rows_right : PySem.W.keepIn K (.ref f__law_rows_right) = true)
    {f_law : Addr} {od_law an_law : Option Addr} {sl_law : Array (Option Value)} {oc_law kV_law dc_law pm_law cd_law ct_law : Value}
    (a_law : PySem.W.nsIn K mainGlobals "law" = some (some (.ref f_law))) (l_law : K.lookup f_law = some ⟨oc_law, od_law, .func (PySem.W.fnOf "law" "law" (defArgs s_law) (defBody s_law) (defScope s_law) .none kV_law dc_law pm_law an_law cd_law ct_law), sl_law⟩) (c_law : PySem.W.codeIn K cd_law "law" = true) (k_law : PySem.W.keepIn K (.ref f_law) = true)
    (z_isinstance : PySem.W.nsIn K mainGlobals "isinstance" = some none)
    (z_int : PySem.W.nsIn K mainGlobals "int" = some none)
    (z_bool : PySem.W.nsIn K mainGlobals "bool" = some none)
    (z_list : PySem.W.nsIn K mainGlobals "list" = some none)
    (z_all : PySem.W.nsIn K mainGlobals "all" = some none)
    (z_len : PySem.W.nsIn K mainGlobals "len" = some none)
    (z_range : PySem.W.nsIn K mainGlobals "range" = some none)
    (z_str : PySem.W.nsIn K mainGlobals "str" = some none)
    (z_abs : PySem.W.nsIn K mainGlobals "abs" = some none)
    (z_tuple : PySem.W.nsIn K mainGlobals "tuple" = some none)
    (z_dict : PySem.W.nsIn K mainGlobals "dict" = some none)
    : ∃ fd : FuncData, (∀ (s : Shared) (v : Value), BindsTo s fd ⟨[v], []⟩ [("_law_script", v)]) ∧ ∀ base : Heap, K.In base → base.Ns mainGlobals mg → FnOk l.prog w K mg base CX0 4 fa fd ["_law_script"] (spTop K) := by
  have e := hfa.symm.trans (PySem.W.mg_of X G a_law)
  cases e
  have F_is_whole := fun_mk (st := s_is_whole) l_is_whole c_is_whole k_is_whole
  have g_is_whole := PySem.W.mg_of X G a_is_whole
  have b_is_whole := F_is_whole.binds (ps := ["thing", "low", "high"]) fun _ _ _ _ _ _ us hl => match us, hl with | [_, _, _], _ => rfl
  have F_is_bytes := fun_mk (st := s_is_bytes) l_is_bytes c_is_bytes k_is_bytes
  have g_is_bytes := PySem.W.mg_of X G a_is_bytes
  have b_is_bytes := F_is_bytes.binds (ps := ["thing"]) fun _ _ _ _ _ _ us hl => match us, hl with | [_], _ => rfl
  have F__law_cell_at := fun_mk (st := s__law_cell_at) l__law_cell_at c__law_cell_at k__law_cell_at
  have g__law_cell_at := PySem.W.mg_of X G a__law_cell_at
  have b__law_cell_at := F__law_cell_at.binds (ps := ["_law_script", "_law_k"]) fun _ _ _ _ _ _ us hl => match us, hl with | [_, _], _ => rfl
  have F__law_digit := fun_mk (st := s__law_digit) l__law_digit c__law_digit k__law_digit
  have g__law_digit := PySem.W.mg_of X G a__law_digit
  have b__law_digit := F__law_digit.binds (ps := ["_law_state", "_law_base"]) fun _ _ _ _ _ _ us hl => match us, hl with | [_, _], _ => rfl
  have F__law_truth := fun_mk (st := s__law_truth) l__law_truth c__law_truth k__law_truth
  have g__law_truth := PySem.W.mg_of X G a__law_truth
  have b__law_truth := F__law_truth.binds (ps := ["_law_found", "_law_due"]) fun _ _ _ _ _ _ us hl => match us, hl with | [_, _], _ => rfl
  have F__law_great := fun_mk (st := s__law_great) l__law_great c__law_great k__law_great
  have g__law_great := PySem.W.mg_of X G a__law_great
  have b__law_great := F__law_great.binds (ps := ["_law_state"]) fun _ _ _ _ _ _ us hl => match us, hl with | [_], _ => rfl
  have F__law_whole_right := fun_mk (st := s__law_whole_right) l__law_whole_right c__law_whole_right k__law_whole_right
  have g__law_whole_right := PySem.W.mg_of X G a__law_whole_right
  have b__law_whole_right := F__law_whole_right.binds (ps := ["_law_state"]) fun _ _ _ _ _ _ us hl => match us, hl with | [_], _ => rfl
  have F__law_row := fun_mk (st := s__law_row) l__law_row c__law_row k__law_row
  have g__law_row := PySem.W.mg_of X G a__law_row
  have b__law_row := F__law_row.binds (ps := ["_law_state"]) fun _ _ _ _ _ _ us hl => match us, hl with | [_], _ => rfl
  have F__law_rows_right := fun_mk (st := s__law_rows_right) l__law_rows_right c__law_rows_right k__law_rows_right
  have g__law_rows_right := PySem.W.mg_of X G a__law_rows_right
  have b__law_rows_right := F__law_rows_right.binds (ps := ["_law_state"]) fun _ _ _ _ _ _ us hl => match us, hl with | [_], _ => rfl
  have F_law := fun_mk (st := s_law) l_law c_law k_law
  have g_law := PySem.W.mg_of X G a_law
  have b_law := F_law.binds (ps := ["_law_script"]) fun _ _ _ _ _ _ us hl => match us, hl with | [_], _ => rfl
  have bI_isinstance := PySem.W.mg_none_of X G z_isinstance
  have bI_int := PySem.W.mg_none_of X G z_int
  have bI_bool := PySem.W.mg_none_of X G z_bool
  have bI_list := PySem.W.mg_none_of X G z_list
  have bI_all := PySem.W.mg_none_of X G z_all
  have bI_len := PySem.W.mg_none_of X G z_len
  have bI_range := PySem.W.mg_none_of X G z_range
  have bI_str := PySem.W.mg_none_of X G z_str
  have bI_abs := PySem.W.mg_none_of X G z_abs
  have bI_tuple := PySem.W.mg_none_of X G z_tuple
  have bI_dict := PySem.W.mg_none_of X G z_dict
  have kb_is_whole_0_thing_low_high : KBinds K (PySem.W.fnOf "is_whole" "is_whole" (defArgs s_is_whole) (defBody s_is_whole) (defScope s_is_whole) .none kV_is_whole dc_is_whole pm_is_whole an_is_whole cd_is_whole ct_is_whole) ["thing", "low", "high"] ["thing", "low", "high"] (fun us ws => match us, ws with | [], [w0, w1, w2] => [w0, w1, w2] | _, _ => []) (fun us ws => match us, ws with | [], [w0, w1, w2] => [w0, w1, w2] | _, _ => []) := by
    refine F_is_whole.kb (fun _ _ _ _ _ _ us ws hl => ?_) (fun {vs us zs ws} r1 r2 => ?_)
    · skip
      cases us with
      | nil =>
        cases ws with
        | nil => exact absurd (show (0 : Nat) = 3 from hl) (by decide)
        | cons q10 ws =>
          cases ws with
          | nil => exact absurd (show (0 : Nat) = 3 from hl) (by decide)
          | cons q11 ws =>
            cases ws with
            | nil => exact absurd (show (0 : Nat) = 3 from hl) (by decide)
            | cons q12 ws =>
              cases ws with
              | nil =>
                rfl
              | cons _ _ => exact absurd (show (0 : Nat) = 3 from hl) (by decide)
      | cons _ _ => exact absurd (show (0 : Nat) = 3 from hl) (by decide)
    · skip
      cases r1 with
      | nil =>
        cases r2 with
        | nil => exact .nil
        | cons q10 r2 =>
          cases r2 with
          | nil => exact .nil
          | cons q11 r2 =>
            cases r2 with
            | nil => exact .nil
            | cons q12 r2 =>
              cases r2 with
              | nil =>
                exact (.cons q10 (.cons q11 (.cons q12 .nil)))
              | cons _ _ => exact .nil
      | cons _ _ => exact .nil
  refine ⟨_, fun s v => (.of_eq rfl : BindsTo s (PySem.W.fnOf "law" "law" (defArgs s_law) (defBody s_law) (defScope s_law) .none kV_law dc_law pm_law an_law cd_law ct_law) ⟨[v], []⟩ [("_law_script", v)]), fun base _ _ => ?_⟩
  have G_is_whole := ok_is_whole (Pr := l.prog) (wo := w) (base := base) (mg := mg) F_is_whole bI_isinstance bI_int bI_bool
  have G_is_bytes := ok_is_bytes (Pr := l.prog) (wo := w) (base := base) (mg := mg) F_is_bytes g_is_whole k_is_whole b_is_whole G_is_whole bI_isinstance bI_list bI_all
  have G__law_cell_at := ok__law_cell_at (Pr := l.prog) (wo := w) (base := base) (mg := mg) F__law_cell_at bI_len
  have G__law_digit := ok__law_digit (Pr := l.prog) (wo := w) (base := base) (mg := mg) F__law_digit bI_len
  have G__law_truth := ok__law_truth (Pr := l.prog) (wo := w) (base := base) (mg := mg) F__law_truth bI_int
  have G__law_great := ok__law_great (Pr := l.prog) (wo := w) (base := base) (mg := mg) F__law_great g__law_digit k__law_digit b__law_digit G__law_digit bI_range
  have G__law_whole_right := ok__law_whole_right (Pr := l.prog) (wo := w) (base := base) (mg := mg) F__law_whole_right g__law_digit k__law_digit b__law_digit G__law_digit g__law_great k__law_great b__law_great G__law_great g__law_truth k__law_truth b__law_truth G__law_truth g_is_whole k_is_whole b_is_whole G_is_whole kb_is_whole_0_thing_low_high bI_str
  have G__law_row := ok__law_row (Pr := l.prog) (wo := w) (base := base) (mg := mg) F__law_row g__law_digit k__law_digit b__law_digit G__law_digit bI_range
  have G__law_rows_right := ok__law_rows_right (Pr := l.prog) (wo := w) (base := base) (mg := mg) F__law_rows_right g__law_row k__law_row b__law_row G__law_row g__law_digit k__law_digit b__law_digit G__law_digit g__law_truth k__law_truth b__law_truth G__law_truth g_is_bytes k_is_bytes b_is_bytes G_is_bytes g__law_great k__law_great b__law_great G__law_great bI_list bI_isinstance bI_int bI_abs bI_len bI_tuple bI_dict bI_bool
  have G_law := ok_law (Pr := l.prog) (wo := w) (base := base) (mg := mg) F_law g__law_cell_at k__law_cell_at b__law_cell_at G__law_cell_at g__law_whole_right k__law_whole_right b__law_whole_right G__law_whole_right g__law_rows_right k__law_rows_right b__law_rows_right G__law_rows_right
  exact G_law.imp fun vs H Q E h => top_of law_ok h
end A
open PySem PySem.W PyProof.Rows
set_option maxRecDepth 100000 in
set_option maxHeartbeats 0 in
theorem PySem.Challenge.cw_lanescroll_k03_what_is_none_holds : PySem.Challenge.rw_lanescroll_k03_what_is_none.Holds := by
  w_on; o_law; k_head; (case hw => w_witness2)
  k_fill
  refine Y.walk_top (l := PySem.Challenge.rw_lanescroll_k03_what_is_none) (k := 4) (x := "_law_script") rfl rfl ⟨rfl, by decide, by decide⟩ (fun w h Y => PySem.W.kIn_of Y) ?F
  case F =>
    intro w mg fa h KX G hmg
    refine' A.all_mk KX G hmg ?a_is_whole ?l_is_whole ?c_is_whole ?k_is_whole ?a_is_bytes ?l_is_bytes ?c_is_bytes ?k_is_bytes ?a__law_cell_at ?l__law_cell_at ?c__law_cell_at ?k__law_cell_at ?a__law_digit ?l__law_digit ?c__law_digit ?k__law_digit ?a__law_truth ?l__law_truth ?c__law_truth ?k__law_truth ?a__law_great ?l__law_great ?c__law_great ?k__law_great ?a__law_whole_right ?l__law_whole_right ?c__law_whole_right ?k__law_whole_right ?a__law_row ?l__law_row ?c__law_row ?k__law_row ?a__law_rows_right ?l__law_rows_right ?c__law_rows_right ?k__law_rows_right ?a_law ?l_law ?c_law ?k_law ?z_isinstance ?z_int ?z_bool ?z_list ?z_all ?z_len ?z_range ?z_str ?z_abs ?z_tuple ?z_dict
    (case a_is_whole => k_is)
    (case l_is_whole => k_is)
    (case c_is_whole => k_is)
    (case k_is_whole => k_is)
    (case a_is_bytes => k_is)
    (case l_is_bytes => k_is)
    (case c_is_bytes => k_is)
    (case k_is_bytes => k_is)
    (case a__law_cell_at => k_is)
    (case l__law_cell_at => k_is)
    (case c__law_cell_at => k_is)
    (case k__law_cell_at => k_is)
    (case a__law_digit => k_is)
    (case l__law_digit => k_is)
    (case c__law_digit => k_is)
    (case k__law_digit => k_is)
    (case a__law_truth => k_is)
    (case l__law_truth => k_is)
    (case c__law_truth => k_is)
    (case k__law_truth => k_is)
    (case a__law_great => k_is)
    (case l__law_great => k_is)
    (case c__law_great => k_is)
    (case k__law_great => k_is)
    (case a__law_whole_right => k_is)
    (case l__law_whole_right => k_is)
    (case c__law_whole_right => k_is)
    (case k__law_whole_right => k_is)
    (case a__law_row => k_is)
    (case l__law_row => k_is)
    (case c__law_row => k_is)
    (case k__law_row => k_is)
    (case a__law_rows_right => k_is)
    (case l__law_rows_right => k_is)
    (case c__law_rows_right => k_is)
    (case k__law_rows_right => k_is)
    (case a_law => k_is)
    (case l_law => k_is)
    (case c_law => k_is)
    (case k_law => k_is)
    (case z_isinstance => k_is)
    (case z_int => k_is)
    (case z_bool => k_is)
    (case z_list => k_is)
    (case z_all => k_is)
    (case z_len => k_is)
    (case z_range => k_is)
    (case z_str => k_is)
    (case z_abs => k_is)
    (case z_tuple => k_is)
    (case z_dict => k_is)
#print axioms PySem.Challenge.cw_lanescroll_k03_what_is_none_holds
