import PyProof.Rows.All
import Wide.All
import OpenK.AllK
import Wide.FinOn
import HandS.ForMost
import HandS.Evl
import HandS.IsInst
import HandS.Flow
import HandS.Defaults
import HandS.Wide
import HandS.WideMore
import HandS.Style
import HandS.ForExc
import HandS.TryOnly
import HandS.CallSlots
import HandS.ExcIs
import PySem.Challenge.RW_lanescroll_k01_fractions_made
set_option Elab.async false
set_option linter.all false
set_option maxRecDepth 100000
set_option maxHeartbeats 2000000
namespace Y
open PySem PySem.Spec PyProof.Rows
open L2

/-- data: what a value stands for, through the heap -/
inductive D where
  | non | bl (b : Bool) | int (i : Int) | str (x : Str)
  | lst (ds : List D) | tup (ds : List D) | dic (kvs : List (Key × D))

abbrev Ex (H H' : Hp) : Prop := ∀ a o, H a = some o → H' a = some o
theorem Ex.refl (H : Hp) : Ex H H := fun _ _ h => h
theorem Ex.trans {H H1 H2 : Hp} (a : Ex H H1) (b : Ex H1 H2) : Ex H H2 := fun x o h => b x o (a x o h)
theorem Ex.new {H : Hp} {p : Addr} {o : HO} (h : H p = none) : Ex H (upd H p o) := fun a u e => by
  rw [upd_ne (ne_of_none e h)]
  exact e
theorem Ex.upd {B H : Hp} {p : Addr} {o : HO} (e : Ex B H) (h : B p = none) : Ex B (upd H p o) := fun a u ha => by
  rw [upd_ne (ne_of_none ha h)]
  exact e a u ha
theorem Ex.both {B H : Hp} {p : Addr} {o : HO} (e : Ex B H) : Ex (L2.upd B p o) (L2.upd H p o) := fun a u ha => by
  by_cases q : a = p
  · subst q; rw [upd_same] at ha; cases ha; exact upd_same
  · rw [upd_ne q] at ha; rw [upd_ne q]; exact e a u ha
theorem Ex.none {H H' : Hp} {p : Addr} (e : Ex H H') (h : H' p = none) : H p = none := by
  cases h1 : H p with
  | none => rfl
  | some o => rw [e p o h1] at h; cases h
theorem Ex.rd {H H' : Hp} {a : Addr} {u : HO} (e : Ex H H') (h : Rd H a u) : Rd H' a u := by
  rcases h with h | ⟨o, h⟩
  · exact Or.inl (e a _ h)
  · exact Or.inr ⟨o, e a _ h⟩
theorem Ex.l {K : PySem.W.Frag} {H H' : Hp} {a : Addr} {xs : List V} (e : Ex H H') (h : SqL K H a xs) : SqL K H' a xs := by
  rcases h with h | h
  · exact Or.inl (e.rd h)
  · exact Or.inr h
theorem Ex.t {K : PySem.W.Frag} {H H' : Hp} {a : Addr} {xs : List V} (e : Ex H H') (h : SqT K H a xs) : SqT K H' a xs := by
  rcases h with h | h
  · exact Or.inl (e.rd h)
  · exact Or.inr h

mutual
/-- v stands for d -/
inductive Rep (K : PySem.W.Frag) (B : Hp) : V → D → Prop where
  | non : Rep K B .non .non
  | bl (b : Bool) : Rep K B (.bl b) (.bl b)
  | int (i : Int) : Rep K B (.int i) (.int i)
  | str (x : Str) : Rep K B (.str x) (.str x)
  | lst {p : Addr} {xs : List V} {ds : List D} (h : SqL K B p xs) (r : RepL K B xs ds) : Rep K B (.ref p) (.lst ds)
  | tup {p : Addr} {xs : List V} {ds : List D} (h : SqT K B p xs) (r : RepL K B xs ds) : Rep K B (.ref p) (.tup ds)
  | dic {p : Addr} {kvs : List (Key × V)} {ds : List (Key × D)} (h : B p = some (.dK kvs)) (r : RepK K B kvs ds) : Rep K B (.ref p) (.dic ds)
inductive RepL (K : PySem.W.Frag) (B : Hp) : List V → List D → Prop where
  | nil : RepL K B [] []
  | cons {v : V} {d : D} {vs : List V} {ds : List D} (h : Rep K B v d) (t : RepL K B vs ds) : RepL K B (v :: vs) (d :: ds)
inductive RepK (K : PySem.W.Frag) (B : Hp) : List (Key × V) → List (Key × D) → Prop where
  | nil : RepK K B [] []
  | cons {k : Key} {v : V} {d : D} {vs : List (Key × V)} {ds : List (Key × D)} (h : Rep K B v d) (t : RepK K B vs ds) : RepK K B ((k, v) :: vs) ((k, d) :: ds)
end
section
variable {K : PySem.W.Frag} {B B' H : Hp}
mutual
theorem Rep.mono (e : Ex B B') : ∀ {v : V} {d : D}, Rep K B v d → Rep K B' v d
  | _, _, .non => .non
  | _, _, .bl b => .bl b
  | _, _, .int i => .int i
  | _, _, .str x => .str x
  | _, _, .lst h r => .lst (e.l h) (RepL.mono e r)
  | _, _, .tup h r => .tup (e.t h) (RepL.mono e r)
  | _, _, .dic h r => .dic (e _ _ h) (RepK.mono e r)
theorem RepL.mono (e : Ex B B') : ∀ {vs : List V} {ds : List D}, RepL K B vs ds → RepL K B' vs ds
  | _, _, .nil => .nil
  | _, _, .cons h t => .cons (Rep.mono e h) (RepL.mono e t)
theorem RepK.mono (e : Ex B B') : ∀ {vs : List (Key × V)} {ds : List (Key × D)}, RepK K B vs ds → RepK K B' vs ds
  | _, _, .nil => .nil
  | _, _, .cons h t => .cons (Rep.mono e h) (RepK.mono e t)
end
theorem RepL.length : ∀ {vs : List V} {ds : List D}, RepL K B vs ds → vs.length = ds.length
  | _, _, .nil => rfl
  | _, _, .cons _ t => congrArg Nat.succ (RepL.length t)
theorem RepL.get : ∀ {vs : List V} {ds : List D} {i : Nat} {d : D}, RepL K B vs ds → ds[i]? = some d → ∃ v, vs[i]? = some v ∧ Rep K B v d
  | _, _, _, _, .nil, e => by simp at e
  | _, _, 0, _, .cons r _, e => by simp at e; subst e; exact ⟨_, rfl, r⟩
  | _, _, i + 1, x, .cons _ t, e => by
    obtain ⟨u, h1, h2⟩ := RepL.get (i := i) (d := x) t (by simpa using e)
    exact ⟨u, by simpa using h1, h2⟩
theorem RepL.append : ∀ {vs ws : List V} {ds es : List D}, RepL K B vs ds → RepL K B ws es → RepL K B (vs ++ ws) (ds ++ es)
  | _, _, _, _, .nil, s => s
  | _, _, _, _, .cons r t, s => .cons r (RepL.append t s)
theorem RepL.at {vs : List V} {ds : List D} {i : Int} {d : D} (r : RepL K B vs ds) (h : atI ds i = some d) : ∃ v, atI vs i = some v ∧ Rep K B v d := by
  unfold atI at h ⊢
  rw [r.length]
  cases e : ixN ds.length i with
  | none => rw [e] at h; cases h
  | some j => rw [e] at h; exact r.get h
theorem RepL.ints : ∀ (ns : List Int), RepL K B (ns.map V.int) (ns.map D.int)
  | [] => .nil
  | n :: r => .cons (.int n) (RepL.ints r)
theorem RepL.of_ints : ∀ {vs : List V} {ns : List Int}, RepL K B vs (ns.map D.int) → vs = ns.map V.int
  | [], [], _ => rfl
  | _ :: _, [], r => nomatch r
  | [], _ :: _, r => nomatch r
  | v :: vs, n :: ns, r => by
    cases r with
    | cons h t =>
      cases h
      rw [RepL.of_ints t]
      rfl
end

/-- from (B, H), what is known and the heap, to (B', H'), writing at most at W -/
structure Stp (W : List Addr) (B H B' H' : Hp) : Prop where
  ex : Ex B B'
  ok : Ex B' H'
  fr : ∀ a o, a ∉ W → H a = some o → H' a = some o
  al : ∀ a o, H a = some o → ∃ o', H' a = some o'
  nw : ∀ a o, B a = none → H a = some o → B' a = none
section
variable {W W' : List Addr} {B H B' H' B1 H1 B2 H2 : Hp} {p : Addr} {o : HO}
theorem Stp.refl (w : Ex B H) : Stp W B H B H := ⟨Ex.refl B, w, fun _ _ _ h => h, fun _ o h => ⟨o, h⟩, fun _ _ h _ => h⟩
theorem Stp.trans (a : Stp W B H B1 H1) (b : Stp W B1 H1 B2 H2) : Stp W B H B2 H2 :=
  ⟨a.ex.trans b.ex, b.ok, fun x o hx h => b.fr x o hx (a.fr x o hx h), fun x o h => let ⟨o1, h1⟩ := a.al x o h; b.al x o1 h1, fun x o hb h => let ⟨o1, h1⟩ := a.al x o h; b.nw x o1 (a.nw x o hb h) h1⟩
theorem Stp.w (a : Stp W B H B1 H1) (h : ∀ x, x ∈ W → x ∈ W') : Stp W' B H B1 H1 := ⟨a.ex, a.ok, fun x o hx e => a.fr x o (fun z => hx (h x z)) e, a.al, a.nw⟩
theorem Stp.w0 (a : Stp [] B H B1 H1) : Stp W B H B1 H1 := a.w fun _ h => nomatch h
/-- a new object that stays -/
theorem Stp.new (w : Ex B H) (h : H p = none) : Stp W B H (upd B p o) (upd H p o) :=
  ⟨Ex.new (w.none h), w.both, fun a u _ e => Ex.new h a u e, fun a u e => ⟨u, Ex.new h a u e⟩, fun a u hb e => by rw [upd_ne (ne_of_none e h)]; exact hb⟩
/-- a new object that may change -/
theorem Stp.newM (w : Ex B H) (h : H p = none) : Stp W B H B (upd H p o) :=
  ⟨Ex.refl B, w.upd (w.none h), fun a u _ e => Ex.new h a u e, fun a u e => ⟨u, Ex.new h a u e⟩, fun a u hb _ => hb⟩
/-- a changed object of W -/
theorem Stp.set (w : Ex B H) (hp : p ∈ W) (hb : B p = none) {u : HO} (hu : H p = some u) : Stp W B H B (upd H p o) :=
  ⟨Ex.refl B, w.upd hb, fun a u hx e => by rw [upd_ne (fun z => hx (by rw [z]; exact hp))]; exact e, fun a u e => by
    by_cases q : a = p
    · subst q; exact ⟨o, upd_same⟩
    · exact ⟨u, by rw [upd_ne q]; exact e⟩, fun _ _ h _ => h⟩
/-- an object of our own, made behind the entry, changed -/
theorem Stp.own (a : Stp W B H B1 H1) (h0 : H p = none) (hb : B1 p = none) (h : ∃ u, H1 p = some u) : Stp W B H B1 (upd H1 p o) :=
  ⟨a.ex, a.ok.upd hb, fun x u hx e => by rw [upd_ne (ne_of_none e h0)]; exact a.fr x u hx e, fun x u e => by
    rw [upd_ne (ne_of_none e h0)]; exact a.al x u e, a.nw⟩
/-- an object of our own turns into one that stays -/
theorem Stp.keep (w : Ex B H) (a : Stp W B H B1 H1) (h0 : H p = none) (hb : B1 p = none) (h : H1 p = some o) : Stp W B H (upd B1 p o) H1 :=
  ⟨fun x u e => by rw [upd_ne (ne_of_none e (w.none h0))]; exact a.ex x u e, fun x u e => by
    by_cases q : x = p
    · subst q; rw [upd_same] at e; cases e; exact h
    · rw [upd_ne q] at e; exact a.ok x u e, a.fr, a.al, fun x u hb e => by rw [upd_ne (ne_of_none e h0)]; exact a.nw x u hb e⟩
end
/-! ### mirrors -/
/-- an error that is raised: the class's name, what it is told -/
structure Err where
  cls : Str
  args : List D := []
/-- what a mirror gives: a value, an error, or a place that the model does not serve -/
inductive Res (α : Type) where
  | ok (a : α) | err (e : Err) | stuck
def Res.bind {α β : Type} (m : Res α) (k : α → Res β) : Res β := match m with | .ok a => k a | .err e => .err e | .stuck => .stuck
/-- an error that nobody waits for -/
def Res.noErr {α : Type} (m : Res α) : Res α := match m with | .ok a => .ok a | _ => .stuck
instance : Monad Res where
  pure := Res.ok
  bind := Res.bind
def Post0 {α : Type} (m : Res α) (P : α → Prop) (R : Err → Prop) : Prop := match m with | .ok a => P a | .err e => R e | .stuck => False
/-- what the mirror gives is wished for: a structure, so that nothing looks into it -/
structure Post {α : Type} (m : Res α) (P : α → Prop) (R : Err → Prop) : Prop where
  h0 : Post0 m P R
section
variable {α β : Type} {m : Res α} {P P' : α → Prop} {R R' : Err → Prop} {a : α}
theorem Post.mono (h : Post m P R) (hp : ∀ a, P a → P' a) (hr : ∀ e, R e → R' e) : Post m P' R' := by
  obtain ⟨h⟩ := h
  refine ⟨?_⟩
  cases m with
  | ok a => exact hp a h
  | err e => exact hr e h
  | stuck => exact h
theorem Post.bind {k : α → Res β} {P : β → Prop} (h : Post (m.bind k) P R) : Post m (fun a => Post (k a) P R) R := by
  obtain ⟨h⟩ := h
  refine ⟨?_⟩
  cases m
  · exact ⟨h⟩
  · exact h
  · exact h
theorem Post.noErr (h : Post m.noErr P R) : Post m P (fun _ => False) := by
  obtain ⟨h⟩ := h
  refine ⟨?_⟩
  cases m with
  | ok a => exact h
  | err e => exact h
  | stuck => exact h
theorem Post.ok (h : Post (.ok a) P R) : P a := h.h0
theorem Post.err {e : Err} (h : Post (.err e : Res α) P R) : R e := h.h0
theorem Post.elim {C : Prop} (h : Post (.stuck : Res α) P R) : C := False.elim h.h0
theorem Post.mk' (h : P a) : Post (.ok a) P R := ⟨h⟩
theorem Post.iteT {c : Bool} {m m' : Res α} (h : Post (if c = true then m else m') P R) (hc : c = true) : Post m P R := by
  rw [if_pos hc] at h; exact h
theorem Post.iteF {c : Bool} {m m' : Res α} (h : Post (if c = true then m else m') P R) (hc : c = false) : Post m' P R := by
  rw [hc, if_neg Bool.false_ne_true] at h; exact h
theorem Post.is {m' : Res α} (h : Post m P R) (e : m = m') : Post m' P R := e ▸ h
end
/-- an item -/
def ixR {α : Type} (l : List α) (i : Int) : Res α := match atI l i with | some x => .ok x | none => .stuck
theorem Post.ix {α β : Type} {l : List α} {i : Int} {k : α → Res β} {P : β → Prop} {R : Err → Prop} (h : Post ((ixR l i).bind k) P R) : ∃ x, atI l i = some x ∧ Post (k x) P R := by
  unfold ixR at h
  cases e : atI l i with
  | none => rw [e] at h; exact h.elim
  | some x => rw [e] at h; exact ⟨x, rfl, h⟩
/-- where c holds -/
def guardR {α : Type} (c : Prop) [Decidable c] (m : Res α) : Res α := if c then m else .stuck
theorem Post.guard {α : Type} {c : Prop} [Decidable c] {m : Res α} {P : α → Prop} {R : Err → Prop} (h : Post (guardR c m) P R) : c ∧ Post m P R := by
  unfold guardR at h
  by_cases e : c
  · rw [if_pos e] at h; exact ⟨e, h⟩
  · rw [if_neg e] at h; exact h.elim
instance (i j : Int) : Decidable (CMulW i j) := by unfold CMulW; infer_instance
instance (i j : Int) : Decidable (CDivW i j) := by unfold CDivW; infer_instance
/-- a loop's turn: on, or a value that is returned, or out -/
inductive Fl (S R : Type) where
  | nx (s : S) | rt (r : R) | bk (s : S)
def forR {α S R : Type} : List α → S → (α → S → Res (Fl S R)) → Res (Fl S R)
  | [], s, _ => .ok (.nx s)
  | x :: xs, s, f => (f x s).bind fun r => match r with | .nx s' => forR xs s' f | r => .ok r
theorem Post.forS {α S R : Type} {l : List α} {i : Nat} {s : S} {f : α → S → Res (Fl S R)} {P : Fl S R → Prop} {E : Err → Prop} {x : α} (h : Post (forR (l.drop i) s f) P E) (hx : l[i]? = some x) :
    Post (f x s) (fun r => match r with | .nx s' => Post (forR (l.drop (i + 1)) s' f) P E | .rt v => P (.rt v) | .bk s' => P (.bk s')) E := by
  obtain ⟨hi, e⟩ := List.getElem?_eq_some_iff.mp hx
  rw [List.drop_eq_getElem_cons hi, e] at h
  exact (Post.bind h).mono (fun r q => by
    cases r
    · exact q
    · exact q.ok
    · exact q.ok) fun _ q => q
theorem Post.forN {α S R : Type} {l : List α} {i : Nat} {s : S} {f : α → S → Res (Fl S R)} {P : Fl S R → Prop} {E : Err → Prop} (h : Post (forR (l.drop i) s f) P E) (hi : l.length ≤ i) : P (.nx s) := by
  rw [List.drop_eq_nil_of_le hi] at h
  exact h.ok

/-! ### what stands for data -/
class Enc (α : Type) where
  enc : α → D
open Enc (enc)
structure Tp1 (α : Type) where
  a : α
structure Tp2 (α β : Type) where
  a : α
  b : β
structure Tp3 (α β γ : Type) where
  a : α
  b : β
  c : γ
structure Tp4 (α β γ δ : Type) where
  a : α
  b : β
  c : γ
  d : δ
structure Tp5 (α β γ δ ε : Type) where
  a : α
  b : β
  c : γ
  d : δ
  e : ε
instance : Enc Int := ⟨.int⟩
instance : Enc Bool := ⟨.bl⟩
instance : Enc Str := ⟨.str⟩
instance : Enc Unit := ⟨fun _ => .non⟩
instance : Enc D := ⟨id⟩
instance {α : Type} [Enc α] : Enc (List α) := ⟨fun l => .lst (l.map enc)⟩
instance {α : Type} [Enc α] : Enc (Option α) := ⟨fun o => match o with | some x => enc x | none => .non⟩
instance {α : Type} [Enc α] : Enc (Tp1 α) := ⟨fun t => .tup [enc t.a]⟩
instance {α β : Type} [Enc α] [Enc β] : Enc (Tp2 α β) := ⟨fun t => .tup [enc t.a, enc t.b]⟩
instance {α β γ : Type} [Enc α] [Enc β] [Enc γ] : Enc (Tp3 α β γ) := ⟨fun t => .tup [enc t.a, enc t.b, enc t.c]⟩
instance {α β γ δ : Type} [Enc α] [Enc β] [Enc γ] [Enc δ] : Enc (Tp4 α β γ δ) := ⟨fun t => .tup [enc t.a, enc t.b, enc t.c, enc t.d]⟩
instance {α β γ δ ε : Type} [Enc α] [Enc β] [Enc γ] [Enc δ] [Enc ε] : Enc (Tp5 α β γ δ ε) := ⟨fun t => .tup [enc t.a, enc t.b, enc t.c, enc t.d, enc t.e]⟩

/-- a list that may change: at p, outside of what is known for good -/
def Mu (K : PySem.W.Frag) (B H : Hp) (p : Addr) (ds : List D) : Prop := B p = none ∧ ∃ xs, H p = some (.lst xs) ∧ RepL K B xs ds
/-- a list that stands in the written part -/
def KL (K : PySem.W.Frag) (a : Addr) (xs : List V) : Prop := ∃ (o : Obj) (its : Array Value) (n : Nat), K.lookup a = some o ∧ o.cls = .type "list" ∧ o.dict = none ∧ o.data = .seq its n ∧ its.size ≤ sizeLine ∧ Vals xs its.toList
/-- a list that is read: at v now -/
def Bor (K : PySem.W.Frag) (B H : Hp) (W : List Addr) (v : V) (ds : List D) : Prop := ∃ p xs, v = .ref p ∧ ((Rd H p (.lst xs) ∧ p ∉ W) ∨ KL K p xs) ∧ RepL K B xs ds
/-- what a return hands on -/
def Ret (K : PySem.W.Frag) (W : List Addr) (B H : Hp) (d : D) (Q : VK) : Prop := ∀ v B' H', Stp W B H B' H' → Rep K B' v d → Q v H'
/-- .. where the list at p may have changed -/
def RetM (K : PySem.W.Frag) (p : Addr) (B H : Hp) (d : D) (ds : List D) (Q : VK) : Prop := ∀ v B' H', Stp [p] B H B' H' → Mu K B' H' p ds → Rep K B' v d → Q v H'
/-- .. that is raised -/
def Rai (mg : Str → Option Value) (W : List Addr) (B H : Hp) (e : Err) (E : XK) : Prop := ∀ C B' H', mg e.cls = some (.ref C) → Stp W B H B' H' → E (.ref C) none H'
section
variable {K : PySem.W.Frag} {B B' B1 H H' H1 : Hp} {W : List Addr} {p q : Addr} {ds es : List D} {xs : List V} {d : D} {v : V} {Q : VK} {mg : Str → Option Value} {E : XK}
theorem Mu.step (m : Mu K B H p ds) (s : Stp W B H B' H') (h : p ∉ W) : Mu K B' H' p ds := by
  obtain ⟨hb, xs, hp, r⟩ := m
  exact ⟨s.nw p _ hb hp, xs, s.fr p _ h hp, r.mono s.ex⟩
theorem Mu.new (w : Ex B H) (h : H p = none) (r : RepL K B xs ds) : Mu K B (upd H p (.lst xs)) p ds := ⟨w.none h, xs, upd_same, r⟩
theorem Mu.bor (m : Mu K B H p ds) (h : p ∉ W) : Bor K B H W (.ref p) ds := by
  obtain ⟨hb, xs, hp, r⟩ := m
  exact ⟨p, xs, rfl, .inl ⟨.inl hp, h⟩, r⟩
theorem Mu.ne (m : Mu K B H p ds) (h : H q = none) : p ≠ q := by
  obtain ⟨hb, xs, hp, r⟩ := m
  exact ne_of_none hp h
theorem Bor.step (m : Bor K B H W v ds) (s : Stp W B H B' H') : Bor K B' H' W v ds := by
  obtain ⟨p, xs, e, hp, r⟩ := m
  refine ⟨p, xs, e, ?_, r.mono s.ex⟩
  rcases hp with ⟨hp | ⟨o, hp⟩, hw⟩ | hp
  · exact .inl ⟨.inl (s.fr p _ hw hp), hw⟩
  · exact .inl ⟨.inr ⟨o, s.fr p _ hw hp⟩, hw⟩
  · exact .inr hp
theorem Bor.w {W' : List Addr} (m : Bor K B H W v ds) (h : ∀ x, x ∈ W' → x ∈ W) : Bor K B H W' v ds := by
  obtain ⟨p, xs, e, hp, r⟩ := m
  refine ⟨p, xs, e, ?_, r⟩
  rcases hp with ⟨hp, hw⟩ | hp
  · exact .inl ⟨hp, fun z => hw (h p z)⟩
  · exact .inr hp
theorem Bor.sq (m : Bor K B H W v ds) : ∃ p xs, v = .ref p ∧ SqL K H p xs ∧ RepL K B xs ds := by
  obtain ⟨p, xs, e, hp, r⟩ := m
  refine ⟨p, xs, e, ?_, r⟩
  rcases hp with ⟨hp, _⟩ | hp
  · exact .inl hp
  · exact .inr hp
theorem Rep.bor (w : Ex B H) (r : Rep K B v (.lst ds)) (h : ∀ x, x ∈ W → B x = none) : Bor K B H W v ds := by
  cases r with
  | @lst p xs _ hp r =>
    refine ⟨p, xs, rfl, ?_, r⟩
    rcases hp with hp | hp
    · refine .inl ⟨w.rd hp, fun z => ?_⟩
      have e := h p z
      rcases hp with hp | ⟨o, hp⟩
      · rw [hp] at e; cases e
      · rw [hp] at e; cases e
    · exact .inr hp
theorem Rep.bor0 (w : Ex B H) (r : Rep K B v (.lst ds)) : Bor K B H [] v ds := r.bor w (fun _ z => nomatch z)
theorem Rep.sq (w : Ex B H) (r : Rep K B v (.lst ds)) : ∃ p xs, v = .ref p ∧ SqL K H p xs ∧ RepL K B xs ds := by
  cases r with
  | @lst p xs _ hp r => exact ⟨p, xs, rfl, w.l hp, r⟩
theorem Rep.st (w : Ex B H) (r : Rep K B v (.tup ds)) : ∃ p xs, v = .ref p ∧ SqT K H p xs ∧ RepL K B xs ds := by
  cases r with
  | @tup p xs _ hp r => exact ⟨p, xs, rfl, w.t hp, r⟩
theorem Mu.sq (m : Mu K B H p ds) : ∃ xs, H p = some (.lst xs) ∧ SqL K H p xs ∧ RepL K B xs ds := by
  obtain ⟨hb, xs, hp, r⟩ := m
  exact ⟨xs, hp, SqL.of hp, r⟩
theorem Stp.mut (w : Ex B H) (m : Mu K B H p ds) (r : RepL K B xs es) : Stp [p] B H B (upd H p (.lst xs)) ∧ Mu K B (upd H p (.lst xs)) p es := by
  obtain ⟨hb, ys, hp, _⟩ := m
  exact ⟨Stp.set w (by simp) hb hp, hb, xs, upd_same, r⟩
end
/-- the built-in type of a thing -/
def tyD : D → String
  | .non => "NoneType" | .bl _ => "bool" | .int _ => "int" | .str _ => "str" | .lst _ => "list" | .tup _ => "tuple" | .dic _ => "dict"
theorem Rep.ty {K : PySem.W.Frag} {B H : Hp} {v : V} {d : D} (w : Ex B H) (r : Rep K B v d) : TyX K H v (.type (tyD d)) := by
  cases r with
  | non => exact .base .non
  | bl b => exact .base (.bl b)
  | int i => exact .base (.int i)
  | str x => exact .base (.str x)
  | lst h r =>
    rcases h with (h | ⟨o, h⟩) | ⟨o, its, n, h, hc, _⟩
    · exact .base (.lst (w _ _ h))
    · exact .base (.frz (w _ _ h))
    · exact .kList h hc
  | tup h r =>
    rcases h with (h | ⟨o, h⟩) | ⟨o, its, n, h, hc, _⟩
    · exact .base (.tup (w _ _ h))
    · exact .fTuple (w _ _ h)
    · exact .kTuple h hc
  | dic h r => exact .base (.dK (w _ _ h))
def isS (s t : String) : Bool := s == t || (s == "bool" && t == "int")
def isA (t : String) (d : D) : Bool := isS (tyD d) t
theorem kit_tab : ∀ s ∈ ["NoneType", "bool", "int", "str", "list", "tuple", "dict"], ∀ t ∈ ["bool", "int", "str", "list", "tuple", "dict"], kitB s t = some (isS s t) := by decide +kernel
theorem tyD_in (d : D) : tyD d ∈ ["NoneType", "bool", "int", "str", "list", "tuple", "dict"] := by cases d <;> simp [tyD]
/-- isinstance(x, int | bool | str | list | tuple | dict) -/
theorem isi {K : PySem.W.Frag} {B H : Hp} {v : V} {d : D} {t : String} {Q : VK} (w : Ex B H) (r : Rep K B v d) (q : Q (.bl (isA t d)) H) (ht : t ∈ ["bool", "int", "str", "list", "tuple", "dict"] := by simp) : rIsi K [v, .ty t] H Q :=
  ⟨v, .ty t, _, .type t, isA t d, rfl, .ty t, r.ty w, kit_ty (kit_tab _ (tyD_in d) _ ht), q⟩
theorem boot_bool : bootBuiltins "bool" = some (.type "bool") := by decide +kernel
theorem boot_int : bootBuiltins "int" = some (.type "int") := by decide +kernel
theorem boot_str : bootBuiltins "str" = some (.type "str") := by decide +kernel
theorem boot_list : bootBuiltins "list" = some (.type "list") := by decide +kernel
theorem boot_tuple : bootBuiltins "tuple" = some (.type "tuple") := by decide +kernel
theorem boot_dict : bootBuiltins "dict" = some (.type "dict") := by decide +kernel

/-! ### readings, step by step -/
def NwL (xs : List V) (H : Hp) (Q : VK) : Prop := ∀ p, H p = none → Q (.ref p) (upd H p (.lst xs))
def NwT (xs : List V) (H : Hp) (Q : VK) : Prop := ∀ p, H p = none → Q (.ref p) (upd H p (.tup xs))
def NewL (xs : List V) (H : Hp) (Q : VK) : Prop := xs.length ≤ sizeLine ∧ NwL xs H Q
def NewT (xs : List V) (H : Hp) (Q : VK) : Prop := xs.length ≤ sizeLine ∧ NwT xs H Q
section
variable {K : PySem.W.Frag} {σ σ' : L2.St} {H : Hp} {Q : VK} {D' : Ends} {te ta tb tc : TE} {tt tt' : TT} {t u z : TS} {tl : TA} {v x y : V} {i j : Int} {n : Nat} {r r' : R2} {W : List Addr}
theorem h_seq (h : t { D' with nx := u D' } σ H) : tSeq t u D' σ H := h
theorem h_set (h : te σ H fun x H1 => u D' (σ.set n (some x)) H1) : tSeq (tAsg te (gName n)) u D' σ H := h
theorem h_set1 (h : te σ H fun x H1 => D'.nx (σ.set n (some x)) H1) : tAsg te (gName n) D' σ H := h
theorem h_nrm {T : L2.St → Hp → Prop} (h : T σ' H) (e : σ' = σ := by rfl) : T σ H := e ▸ h
theorem h_drop (h : te σ H fun _ H1 => D'.nx σ H1) : tDrop te D' σ H := h
theorem h_ret (h : te σ H D'.rt) : tRet te D' σ H := h
theorem h_if {c : TT} (h : c σ H fun b H1 => if b = true then t D' σ H1 else u D' σ H1) : tIfS c t u D' σ H := h
theorem h_next (h : D'.nx σ H) : tNext D' σ H := h
theorem h_nx {a c d : L2.St → Hp → Prop} {b : VK} (h : a σ H) : (Ends.mk a b c d).nx σ H := h
theorem h_var (e : σ[n]? = some (some v)) (h : Q v H) : tVar n σ H Q := ⟨v, e, h⟩
theorem h_c (h : Q v H) : tC v σ H Q := h
theorem h_op (h : ta σ H fun x H1 => tb σ H1 fun y H2 => r x y H2 Q) : tOp r ta tb σ H Q := h
theorem h_I0 {g : Int → Int → V} (h : Q (g i j) H) : rI0 g (.int i) (.int j) H Q := ⟨i, j, rfl, rfl, h⟩
theorem h_I {C : Int → Int → Prop} {g : Int → Int → V} (c : C i j) (h : Q (g i j) H) : rI C g (.int i) (.int j) H Q := ⟨i, j, rfl, rfl, c, h⟩
theorem h_un {f : V → Hp → VK → Prop} (h : ta σ H fun x H1 => f x H1 Q) : tUn f ta σ H Q := h
theorem h_U {g : Int → V} (h : Q (g i) H) : rU g (.int i) H Q := ⟨i, rfl, h⟩
theorem h_eq (s : scal x y = true) (h : Q (.bl (decide (x = y))) H) : rEq x y H Q := ⟨s, h⟩
theorem h_ne (s : scal x y = true) (h : Q (.bl (!decide (x = y))) H) : rNe x y H Q := ⟨s, h⟩
theorem dec_i : decide (V.int i = V.int j) = decide (i = j) := by simp
theorem dec_b {i j : Bool} : decide (V.bl i = V.bl j) = decide (i = j) := by simp
theorem dec_s {i j : Str} : decide (V.str i = V.str j) = decide (i = j) := by simp
theorem h_eqI (h : Q (.bl (decide (i = j))) H) : rEq (.int i) (.int j) H Q := ⟨rfl, by rw [dec_i]; exact h⟩
theorem h_neI (h : Q (.bl (!decide (i = j))) H) : rNe (.int i) (.int j) H Q := ⟨rfl, by rw [dec_i]; exact h⟩
theorem h_eqS {i j : Str} (h : Q (.bl (decide (i = j))) H) : rEq (.str i) (.str j) H Q := ⟨rfl, by rw [dec_s]; exact h⟩
theorem h_neS {i j : Str} (h : Q (.bl (!decide (i = j))) H) : rNe (.str i) (.str j) H Q := ⟨rfl, by rw [dec_s]; exact h⟩
theorem h_eqB {i j : Bool} (h : Q (.bl (decide (i = j))) H) : rEq (.bl i) (.bl j) H Q := ⟨rfl, by rw [dec_b]; exact h⟩
theorem h_neB {i j : Bool} (h : Q (.bl (!decide (i = j))) H) : rNe (.bl i) (.bl j) H Q := ⟨rfl, by rw [dec_b]; exact h⟩
theorem h_chain (h : ta σ H fun x H1 => tb σ H1 fun y H2 => r x y H2 fun z H3 => ∃ k, z = .bl k ∧ (if k = true then tc σ H3 fun w' H4 => r' y w' H4 Q else Q (.bl false) H3)) : tChain r r' ta tb tc σ H Q := h
theorem h_chk {k : Bool} {A : Prop} {w : V} {f : Bool → Prop} (hw : w = .bl k) (h : f k) : ∃ k, w = .bl k ∧ f k := ⟨k, hw, h⟩
theorem h_and (h : ta σ H fun x H1 => ∃ c, x = .bl c ∧ if c = true then tb σ H1 Q else Q (.bl false) H1) : tAndV ta tb σ H Q := h
theorem h_or (h : ta σ H fun x H1 => ∃ c, x = .bl c ∧ if c = true then Q (.bl true) H1 else tb σ H1 Q) : tOrV ta tb σ H Q := h
theorem h_not (h : ta σ H fun x H1 => ∃ c, x = .bl c ∧ Q (.bl (!c)) H1) : tNotV ta σ H Q := h
theorem h_tand {Q : Bool → Hp → Prop} (h : tt σ H fun c H1 => if c = true then tt' σ H1 Q else Q false H1) : tAnd tt tt' σ H Q := h
theorem h_tor {Q : Bool → Hp → Prop} (h : tt σ H fun c H1 => if c = true then Q true H1 else tt' σ H1 Q) : tOr tt tt' σ H Q := h
theorem h_tnot {Q : Bool → Hp → Prop} (h : tt σ H fun c H1 => Q (!c) H1) : tNot tt σ H Q := h
theorem h_test {Q : Bool → Hp → Prop} (h : te σ H fun x H' => ∃ k, x = .bl k ∧ Q k H') : tTest te σ H Q := h
theorem h_tB {Q : Bool → Hp → Prop} (h : te σ H fun x H' => ∃ k, x = .bl k ∧ Q k H') : tB te σ H Q := h
theorem h_bl {b : Bool} {f : Bool → Prop} (h : f b) : ∃ k, V.bl b = .bl k ∧ f k := ⟨b, rfl, h⟩
theorem h_iteT {A B : Prop} (h : A) : if true = true then A else B := by rw [if_pos rfl]; exact h
theorem h_iteF {A B : Prop} (h : B) : if false = true then A else B := by rw [if_neg Bool.false_ne_true]; exact h
theorem h_ite {b : Bool} {A B : Prop} (h1 : b = true → A) (h2 : b = false → B) : if b = true then A else B := by
  cases b
  · exact h_iteF (h2 rfl)
  · exact h_iteT (h1 rfl)
theorem h_ifE {c : TT} (h : c σ H fun b H1 => if b = true then ta σ H1 Q else tb σ H1 Q) : tIf c ta tb σ H Q := h
theorem h_nil {Q : List V → Hp → Prop} (h : Q [] H) : tNil σ H Q := h
theorem h_cons {Q : List V → Hp → Prop} (h : te σ H fun x H1 => tl σ H1 fun xs H2 => Q (x :: xs) H2) : tCons te tl σ H Q := h
theorem h_cb {f : List V → Hp → VK → Prop} (h : tl σ H fun vs H1 => f vs H1 Q) : tCB f tl σ H Q := h
theorem h_call {sp : Sp} {dvs : List V} {E : XK} (h : tl σ H fun vs H1 => sp (vs ++ dvs) H1 Q E) : tCall sp dvs E tl σ H Q := h
theorem h_callS {sp : Sp} {E : L2.St → XK} (h : tl σ H fun vs H1 => sp vs H1 Q (E σ)) : tCallS sp E tl σ H Q := h
theorem h_tup (h : tl σ H fun xs H1 => NewT xs H1 Q) : tTup tl σ H Q := h
theorem h_lst (h : tl σ H fun xs H1 => NewL xs H1 Q) : tLst tl σ H Q := h
theorem h_ixL {p : Addr} {xs : List V} (s : SqL K H p xs) (e : atI xs i = some v) (h : Q v H) : rIxL K (.ref p) (.int i) H Q := ⟨p, xs, i, v, rfl, rfl, s, e, h⟩
theorem h_ixT {p : Addr} {xs : List V} (s : SqT K H p xs) (e : atI xs i = some v) (h : Q v H) : rIxT K (.ref p) (.int i) H Q := ⟨p, xs, i, v, rfl, rfl, s, e, h⟩
end

section
variable {K : PySem.W.Frag} {σ : L2.St} {B B1 B' H H1 H' B0 H0 : Hp} {Q : VK} {W W' : List Addr} {p q : Addr} {xs ys : List V} {ds es : List D} {v : V} {d : D} {i j : Int} {te ta tb : TE}
theorem h_newL (w : Ex B H) (r : RepL K B xs ds) (h : ∀ p B' H', Stp [] B H B' H' → Rep K B' (.ref p) (.lst ds) → Q (.ref p) H') (hn : xs.length ≤ sizeLine) : NewL xs H Q :=
  ⟨hn, fun p hp => h p _ _ (Stp.new w hp) (.lst (SqL.of upd_same) (r.mono (Ex.new (w.none hp))))⟩
theorem h_newT (w : Ex B H) (r : RepL K B xs ds) (h : ∀ p B' H', Stp [] B H B' H' → Rep K B' (.ref p) (.tup ds) → Q (.ref p) H') (hn : xs.length ≤ sizeLine) : NewT xs H Q :=
  ⟨hn, fun p hp => h p _ _ (Stp.new w hp) (.tup (SqT.of upd_same) (r.mono (Ex.new (w.none hp))))⟩
theorem h_newM (w : Ex B H) (r : RepL K B xs ds) (h : ∀ p H', H p = none → Stp [] B H B H' → Mu K B H' p ds → Q (.ref p) H') (hn : xs.length ≤ sizeLine) : NewL xs H Q :=
  ⟨hn, fun p hp => h p _ hp (Stp.newM w hp) (Mu.new w hp r)⟩
theorem h_nwL (w : Ex B H) (r : RepL K B xs ds) (h : ∀ p B' H', Stp [] B H B' H' → Rep K B' (.ref p) (.lst ds) → Q (.ref p) H') : NwL xs H Q :=
  fun p hp => h p _ _ (Stp.new w hp) (.lst (SqL.of upd_same) (r.mono (Ex.new (w.none hp))))
theorem h_nwT (w : Ex B H) (r : RepL K B xs ds) (h : ∀ p B' H', Stp [] B H B' H' → Rep K B' (.ref p) (.tup ds) → Q (.ref p) H') : NwT xs H Q :=
  fun p hp => h p _ _ (Stp.new w hp) (.tup (SqT.of upd_same) (r.mono (Ex.new (w.none hp))))
theorem h_nwM (w : Ex B H) (r : RepL K B xs ds) (h : ∀ p H', H p = none → Stp [] B H B H' → Mu K B H' p ds → Q (.ref p) H') : NwL xs H Q :=
  fun p hp => h p _ hp (Stp.newM w hp) (Mu.new w hp r)
/-- what was free now was free at the entry -/
theorem Stp.nn (s : Stp W B0 H0 B H) (h : H p = none) : H0 p = none := by
  cases e : H0 p with
  | none => rfl
  | some o => obtain ⟨u, q⟩ := s.al p o e; rw [h] at q; cases q
/-- a step that writes at an object of our own -/
theorem Stp.own2 (a : Stp W B0 H0 B H) (s : Stp [p] B H B' H') (h0 : H0 p = none) : Stp W B0 H0 B' H' :=
  ⟨a.ex.trans s.ex, s.ok, fun x u hx e => s.fr x u (fun z => by
      rw [List.mem_singleton.mp z, h0] at e; cases e) (a.fr x u hx e), fun x u e => let ⟨u1, e1⟩ := a.al x u e; s.al x u1 e1, fun x u hb e => let ⟨u1, e1⟩ := a.al x u e; s.nw x u1 (a.nw x u hb e) e1⟩
theorem nm0 : p ∉ ([] : List Addr) := fun z => nomatch z
theorem nm1 (h : p ≠ q) : p ∉ [q] := fun z => h (List.mem_singleton.mp z)
theorem sub0 : ∀ x, x ∈ ([] : List Addr) → x ∈ W := fun _ z => nomatch z
/-- a list of our own is kept as it is -/
theorem Mu.keep (m : Mu K B H p ds) : ∃ B', Ex B B' ∧ (∀ q, q ≠ p → B q = none → B' q = none) ∧ (∀ W B0 H0, Stp W B0 H0 B H → Ex B0 H0 → H0 p = none → Stp W B0 H0 B' H) ∧ Rep K B' (.ref p) (.lst ds) := by
  obtain ⟨hb, xs, hp, r⟩ := m
  exact ⟨upd B p (.lst xs), Ex.new hb, fun q n e => by rw [upd_ne n]; exact e, fun W B0 H0 st w0 h0 => Stp.keep w0 st h0 hb hp, .lst (SqL.of upd_same) (r.mono (Ex.new hb))⟩
/-- a step that writes at what may be written and at objects of our own -/
theorem Stp.go (a : Stp W B0 H0 B H) (s : Stp W' B H B' H') (h : ∀ p, p ∈ W' → p ∈ W ∨ H0 p = none) : Stp W B0 H0 B' H' :=
  ⟨a.ex.trans s.ex, s.ok, fun x u hx e => s.fr x u (fun z => by
      rcases h x z with q | q
      · exact hx q
      · rw [q] at e; cases e) (a.fr x u hx e), fun x u e => let ⟨u1, e1⟩ := a.al x u e; s.al x u1 e1, fun x u hb e => let ⟨u1, e1⟩ := a.al x u e; s.nw x u1 (a.nw x u hb e) e1⟩
theorem go0 {F : Addr → Prop} : ∀ x, x ∈ ([] : List Addr) → F x := fun _ z => nomatch z
theorem go1 {F : Addr → Prop} (h : F p) : ∀ x, x ∈ [p] → F x := fun x z => by rw [List.mem_singleton.mp z]; exact h
theorem go2 {F : Addr → Prop} (h : F p) (h' : F q) : ∀ x, x ∈ [p, q] → F x := fun x z => by
  rcases List.mem_cons.mp z with e | e
  · rw [e]; exact h
  · rw [List.mem_singleton.mp e]; exact h'
theorem nm2 {r : Addr} (h : p ≠ q) (h' : p ≠ r) : p ∉ [q, r] := fun z => by
  rcases List.mem_cons.mp z with e | e
  · exact h e
  · exact h' (List.mem_singleton.mp e)
theorem Mu.kp (m : Mu K B H q es) (e : Ex B B') (k : ∀ q, q ≠ p → B q = none → B' q = none) (n : q ≠ p) : Mu K B' H q es := by
  obtain ⟨hb, xs, hp, r⟩ := m
  exact ⟨k q n hb, xs, hp, r.mono e⟩
theorem RepL.atE {α : Type} [Enc α] {l : List α} {x : α} (r : RepL K B xs (l.map enc)) (h : atI l i = some x) : ∃ v, atI xs i = some v ∧ Rep K B v (enc x) := by
  refine r.at ?_
  unfold atI at h ⊢
  rw [List.length_map]
  cases e : ixN l.length i with
  | none => rw [e] at h; cases h
  | some k =>
    rw [e] at h
    show (l.map enc)[k]? = _
    rw [List.getElem?_map, show l[k]? = some x from h]
    rfl
theorem h_pow {k : Int} (e : i ^ j.toNat = k) (c : CPow i j) (h : Q (.int k) H) : rI CPow (fun i j => .int (i ^ j.toNat)) (.int i) (.int j) H Q := ⟨i, j, rfl, rfl, c, by show Q (.int (i ^ j.toNat)) H; rw [e]; exact h⟩
instance (i j : Int) : Decidable (CPow i j) := by unfold CPow; infer_instance
instance (i j : Int) : Decidable (CMul i j) := by unfold CMul; infer_instance
instance (i j : Int) : Decidable (CDiv i j) := by unfold CDiv; infer_instance
def absI (i : Int) : Int := if i < 0 then -i else i
def b2z (b : Bool) : Int := if b then 1 else 0
theorem h_isB {a b : Bool} (h : Q (.bl (decide (a = b))) H) : rIsB (.bl a) (.bl b) H Q := ⟨a, b, rfl, rfl, h⟩
theorem h_isnotB {a b : Bool} (h : Q (.bl (!decide (a = b))) H) : rNotB (.bl a) (.bl b) H Q := ⟨a, b, rfl, rfl, h⟩
def rLenY (K : PySem.W.Frag) : List V → Hp → VK → Prop := fun xs H Q => ∃ p ys, xs = [.ref p] ∧ (SqL K H p ys ∨ SqT K H p ys) ∧ Q (.int ys.length) H
def rAbsY : List V → Hp → VK → Prop := fun xs H Q => ∃ i, xs = [.int i] ∧ Q (.int (if i < 0 then -i else i)) H
def rIntY : List V → Hp → VK → Prop := fun xs H Q => (∃ i, xs = [.int i] ∧ Q (.int i) H) ∨ ∃ k, xs = [.bl k] ∧ Q (.int (if k then 1 else 0)) H
def rStrY : List V → Hp → VK → Prop := fun xs H Q => ∃ i, xs = [.int i] ∧ i.natAbs.log2 < 1920 ∧ Q (.str (toString i)) H
def rListY (K : PySem.W.Frag) : List V → Hp → VK → Prop := fun xs H Q => ∃ p ys, xs = [.ref p] ∧ (SqL K H p ys ∨ SqT K H p ys) ∧ ∀ l, H l = none → Q (.ref l) (upd H l (.lst ys))
def rTupY (K : PySem.W.Frag) : List V → Hp → VK → Prop := fun xs H Q => ∃ p ys, xs = [.ref p] ∧ ((SqL K H p ys ∧ ∀ l, H l = none → Q (.ref l) (upd H l (.tup ys))) ∨ (SqT K H p ys ∧ Q (.ref p) H))
theorem cr_len {X : Cx} : CallR X (.builtin "len") (rLenY X.K) := call_len_seq
theorem cr_abs {X : Cx} : CallR X (.builtin "abs") rAbsY := call_abs
theorem cr_int {X : Cx} : CallR X (.type "int") rIntY := call_int1
theorem cr_str {X : Cx} : CallR X (.type "str") rStrY := call_str_int
theorem cr_list {X : Cx} : CallR X (.type "list") (rListY X.K) := call_list_of
theorem cr_tuple {X : Cx} : CallR X (.type "tuple") (rTupY X.K) := call_tuple_of
theorem h_len {α : Type} [Enc α] {l : List α} (s : SqL K H p xs) (r : RepL K B xs (l.map enc)) (h : Q (.int l.length) H) : rLenY K [V.ref p] H Q := by
  refine ⟨p, xs, rfl, .inl s, ?_⟩
  rw [show xs.length = l.length from by rw [r.length, List.length_map]]
  exact h
theorem h_lenT (s : SqT K H p xs) (r : RepL K B xs ds) (h : Q (.int ds.length) H) : rLenY K [V.ref p] H Q := by
  refine ⟨p, xs, rfl, .inr s, ?_⟩
  rw [r.length]
  exact h
theorem h_abs (h : Q (.int (absI i)) H) : rAbsY [V.int i] H Q := ⟨i, rfl, h⟩
theorem h_intB {b : Bool} (h : Q (.int (b2z b)) H) : rIntY [V.bl b] H Q := .inr ⟨b, rfl, h⟩
theorem h_intI (h : Q (.int i) H) : rIntY [V.int i] H Q := .inl ⟨i, rfl, h⟩
theorem h_str (c : i.natAbs.log2 < 1920) (h : Q (.str (toString i)) H) : rStrY [V.int i] H Q := ⟨i, rfl, c, h⟩
theorem h_listL (s : SqL K H p xs) (h : NwL xs H Q) : rListY K [V.ref p] H Q := ⟨p, xs, rfl, .inl s, h⟩
theorem h_listT (s : SqT K H p xs) (h : NwL xs H Q) : rListY K [V.ref p] H Q := ⟨p, xs, rfl, .inr s, h⟩
theorem h_tupL (s : SqL K H p xs) (h : NwT xs H Q) : rTupY K [V.ref p] H Q := ⟨p, xs, rfl, .inl ⟨s, h⟩⟩
theorem h_iteN {b : Bool} {A C : Prop} (h1 : b = false → A) (h2 : b = true → C) : if (!b) = true then A else C := by
  cases b
  · exact h_iteT (h1 rfl)
  · exact h_iteF (h2 rfl)
theorem h_iteNT {A C : Prop} (h : C) : if (!true) = true then A else C := h_iteF h
theorem h_iteNF {A C : Prop} (h : A) : if (!false) = true then A else C := h_iteT h
theorem Post.iteTn {α : Type} {m m' : Res α} {P : α → Prop} {R : Err → Prop} {c : Bool} (h : Post (if (!c) = true then m else m') P R) (hc : c = false) : Post m P R := by
  rw [hc] at h; exact h
theorem Post.iteFn {α : Type} {m m' : Res α} {P : α → Prop} {R : Err → Prop} {c : Bool} (h : Post (if (!c) = true then m else m') P R) (hc : c = true) : Post m' P R := by
  rw [hc] at h; exact h
end

/-! ### joins, loops, comprehensions, in step with the mirror -/
section
variable {K : PySem.W.Frag} {σ : L2.St} {B B1 B' H H1 H' B0 H0 : Hp} {Q : VK} {W W' : List Addr} {p q : Addr} {xs ys : List V} {ds es : List D} {v : V} {d : D} {t z tb : TS} {te : TE} {c tt : TT} {D' : Ends} {g : TG} {ti : TI}
variable {α β S R' : Type} {P : β → Prop} {R : Err → Prop}
theorem h_joinS {m : Res α} {k : α → Res β} (hP : Post (m.bind k) P R) (J : α → L2.St → Hp → Prop)
    (h1 : ∀ N : L2.St → Hp → Prop, (∀ a σ' H', J a σ' H' → Post (k a) P R → N σ' H') → Post m (fun a => Post (k a) P R) R → t { D' with nx := N } σ H)
    (h2 : ∀ a σ' H', J a σ' H' → Post (k a) P R → z D' σ' H') : tSeq t z D' σ H := h1 _ h2 hP.bind
theorem h_condJ {m : Res Bool} {k : Bool → Res β} {Qb : Bool → Hp → Prop} (hP : Post (m.bind k) P R) (J : Hp → Prop)
    (h1 : ∀ N : Bool → Hp → Prop, (∀ b H', J H' → Post (k b) P R → N b H') → Post m (fun b => Post (k b) P R) R → c σ H N)
    (h2 : ∀ b H', J H' → Post (k b) P R → Qb b H') : c σ H Qb := h1 _ h2 hP.bind
theorem h_exprJ {m : Res α} {k : α → Res β} (hP : Post (m.bind k) P R) (J : α → V → Hp → Prop)
    (h1 : ∀ N : VK, (∀ a v H', J a v H' → Post (k a) P R → N v H') → Post m (fun a => Post (k a) P R) R → te σ H N)
    (h2 : ∀ a v H', J a v H' → Post (k a) P R → Q v H') : te σ H Q := h1 _ h2 hP.bind
theorem h_gname {n : Nat} {Q : L2.St → Hp → Prop} (h : Q (σ.set n (some v)) H) : gName n v σ H Q := h
/-- behind a loop -/
def afterR (k : S → Res β) : Fl S β → Res β
  | .nx s => k s | .rt r => .ok r | .bk s => k s
/-- a join of ways of which some end the def (or the turn) -/
theorem h_joinF {m : Res (Fl S β)} {k : S → Res β} (hP : Post (m.bind (afterR k)) P R) (J : S → L2.St → Hp → Prop)
    (h1 : ∀ (N : L2.St → Hp → Prop) (T : Fl S β → Prop), (∀ a σ' H', J a σ' H' → T (.nx a) → N σ' H') → (∀ r, T (.rt r) → P r) → Post m T R → t { D' with nx := N } σ H)
    (h2 : ∀ a σ' H', J a σ' H' → Post (k a) P R → z D' σ' H') : tSeq t z D' σ H :=
  h1 _ (fun a => Post (afterR k a) P R) (fun a σ' H' j q => h2 a σ' H' j q) (fun _ q => (q : Post (.ok _) P R).ok) hP.bind
/-- what a turn hands on -/
def turnR (l : List α) (f : α → S → Res (Fl S R')) (i : Nat) (P : Fl S R' → Prop) (R : Err → Prop) : Fl S R' → Prop
  | .nx s => Post (forR (l.drop i) s f) P R | .rt r => P (.rt r) | .bk s => P (.bk s)
theorem Post.turn {l : List α} {i : Nat} {s : S} {f : α → S → Res (Fl S R')} {P : Fl S R' → Prop} {x : α} (h : Post (forR (l.drop i) s f) P R) (hx : l[i]? = some x) : Post (f x s) (turnR l f (i + 1) P R) R :=
  (Post.forS h hx).mono (fun r q => by cases r <;> exact q) fun _ q => q

theorem h_forE (h : te σ H fun x H1 => tFor (iList K (tC x)) g tb D' σ H1) : tFor (iList K te) g tb D' σ H := h
theorem h_forL [Enc α] {l : List α} {s0 : S} {f : α → S → Res (Fl S β)} {k : S → Res β} (hP : Post ((forR l s0 f).bind (afterR k)) P R) (hs : SqL K H p xs) (hr : RepL K B xs (l.map enc))
    (J : S → L2.St → Hp → Prop) (h0 : J s0 σ H) (hl : ∀ s σ' H', J s σ' H' → SqL K H' p xs)
    (hb : ∀ (N : L2.St → Hp → Prop) (T : Fl S β → Prop) (x : α) v s σ' H', J s σ' H' → Rep K B v (enc x) → (∀ s' σ2 H2, J s' σ2 H2 → T (.nx s') → N σ2 H2) → (∀ r, T (.rt r) → P r) → (∀ s' σ2 H2, J s' σ2 H2 → T (.bk s') → D'.nx σ2 H2) → Post (f x s) T R →
      g v σ' H' fun σ2 H2 => tb { D' with nx := N, ct := N, bk := D'.nx } σ2 H2)
    (hd : ∀ s σ' H', J s σ' H' → Post (k s) P R → D'.nx σ' H') : tFor (iList K (tC (.ref p))) g tb D' σ H := by
  refine ⟨p, rfl, ⟨xs, hs⟩, for_list (K := K) (a := p) (xs := xs) (fun i σ' H' => ∃ s, J s σ' H' ∧ Post (forR (l.drop i) s f) (fun a => Post (afterR k a) P R) R) ⟨s0, h0, hP.bind⟩ (fun i σ' H' _ ⟨s, j, _⟩ => hl s σ' H' j) ?_ ?_⟩
  · rintro i y σ' H' hi ⟨s, j, q⟩
    obtain ⟨x, hx⟩ : ∃ x, l[i]? = some x := by
      have h1 := (List.getElem?_eq_some_iff.mp hi).1
      rw [hr.length, List.length_map] at h1
      exact ⟨l[i], List.getElem?_eq_getElem h1⟩
    obtain ⟨u, hu, ru⟩ := hr.get (i := i) (d := enc x) (by rw [List.getElem?_map, hx]; rfl)
    rw [hi] at hu; cases hu
    exact hb _ _ x y s σ' H' j ru (fun s' σ2 H2 j2 t2 => ⟨s', j2, t2⟩) (fun r t2 => (t2 : Post (.ok r) P R).ok) (fun s' σ2 H2 j2 t2 => hd s' σ2 H2 j2 t2) (q.turn hx)
  · rintro σ' H' ⟨s, j, q⟩
    exact hd s σ' H' j (q.forN (by rw [hr.length, List.length_map]; exact Nat.le_refl _))
/-- the ints from lo on, below hi -/
def rngI (lo hi : Int) : List Int := (List.range (hi - lo).toNat).map fun (i : Nat) => lo + (i : Int)
theorem rngI_get {lo hi : Int} {i : Nat} (h : i < (hi - lo).toNat) : (rngI lo hi)[i]? = some (lo + (i : Int)) := by
  unfold rngI
  rw [List.getElem?_map, List.getElem?_range h]
  rfl
theorem rngI_len {lo hi : Int} : (rngI lo hi).length = (hi - lo).toNat := by
  unfold rngI
  rw [List.length_map, List.length_range]
def Rng1 (vs : List V) (g : TG) (tb : TS) (D' : Ends) (σ : L2.St) (H : Hp) : Prop := tFor (iRng1 (fun _ H Q => Q vs H)) g tb D' σ H
def Rng2 (vs : List V) (g : TG) (tb : TS) (D' : Ends) (σ : L2.St) (H : Hp) : Prop := tFor (iRng2 (fun _ H Q => Q vs H)) g tb D' σ H
theorem h_rng1 {ta : TA} (h : ta σ H fun vs H1 => Rng1 vs g tb D' σ H1) : tFor (iRng1 ta) g tb D' σ H := h
theorem h_rng2 {ta : TA} (h : ta σ H fun vs H1 => Rng2 vs g tb D' σ H1) : tFor (iRng2 ta) g tb D' σ H := h
theorem forRng {lo hi : Int} {s0 : S} {f : Int → S → Res (Fl S β)} {k : S → Res β} (hP : Post ((forR (rngI lo hi) s0 f).bind (afterR k)) P R)
    (J : S → L2.St → Hp → Prop) (h0 : J s0 σ H)
    (hb : ∀ (N : L2.St → Hp → Prop) (T : Fl S β → Prop) (x : Int) s σ' H', J s σ' H' → lo ≤ x → x < hi → (∀ s' σ2 H2, J s' σ2 H2 → T (.nx s') → N σ2 H2) → (∀ r, T (.rt r) → P r) → (∀ s' σ2 H2, J s' σ2 H2 → T (.bk s') → D'.nx σ2 H2) → Post (f x s) T R →
      g (.int x) σ' H' fun σ2 H2 => tb { D' with nx := N, ct := N, bk := D'.nx } σ2 H2)
    (hd : ∀ s σ' H', J s σ' H' → Post (k s) P R → D'.nx σ' H') :
    ∃ W : Nat → Nat → L2.St → Hp → Prop, (∃ m, W 0 m σ H) ∧ ∀ i m σ H, W i m σ H →
      ((Itr lo (hi - lo).toNat).stop i H ∧ D'.nx σ H) ∨ ((Itr lo (hi - lo).toNat).go i H ∧ ∃ N : L2.St → Hp → Prop, (∀ σ' H', N σ' H' → ∃ m', m' < m ∧ W (i + 1) m' σ' H') ∧ ∀ x H', (Itr lo (hi - lo).toNat).yld i H x H' → g x σ H' fun σ2 H2 => tb { D' with nx := N, ct := N, bk := D'.nx } σ2 H2) := by
  refine for_range (lo := lo) (n := (hi - lo).toNat) (fun i σ' H' => ∃ s, J s σ' H' ∧ Post (forR ((rngI lo hi).drop i) s f) (fun a => Post (afterR k a) P R) R) ⟨s0, h0, hP.bind⟩ ?_ ?_
  · rintro i σ' H' hi' ⟨s, j, q⟩
    exact hb _ _ (lo + (i : Int)) s σ' H' j (by omega) (by omega) (fun s' σ2 H2 j2 t2 => ⟨s', j2, t2⟩) (fun r t2 => (t2 : Post (.ok r) P R).ok) (fun s' σ2 H2 j2 t2 => hd s' σ2 H2 j2 t2) (q.turn (rngI_get hi'))
  · rintro σ' H' ⟨s, j, q⟩
    exact hd s σ' H' j (q.forN (by rw [rngI_len]; exact Nat.le_refl _))
theorem h_forR1 {hi : Int} {s0 : S} {f : Int → S → Res (Fl S β)} {k : S → Res β} (hP : Post ((forR (rngI 0 hi) s0 f).bind (afterR k)) P R) (hz : -(2 ^ 62) ≤ hi ∧ hi < 2 ^ 62)
    (J : S → L2.St → Hp → Prop) (h0 : J s0 σ H)
    (hb : ∀ (N : L2.St → Hp → Prop) (T : Fl S β → Prop) (x : Int) s σ' H', J s σ' H' → 0 ≤ x → x < hi → (∀ s' σ2 H2, J s' σ2 H2 → T (.nx s') → N σ2 H2) → (∀ r, T (.rt r) → P r) → (∀ s' σ2 H2, J s' σ2 H2 → T (.bk s') → D'.nx σ2 H2) → Post (f x s) T R →
      g (.int x) σ' H' fun σ2 H2 => tb { D' with nx := N, ct := N, bk := D'.nx } σ2 H2)
    (hd : ∀ s σ' H', J s σ' H' → Post (k s) P R → D'.nx σ' H') : Rng1 [.int hi] g tb D' σ H := by
  have q := forRng hP J h0 hb hd
  rw [Int.sub_zero] at q
  exact ⟨hi, rfl, hz.1, hz.2, q⟩
theorem h_forR2 {lo hi : Int} {s0 : S} {f : Int → S → Res (Fl S β)} {k : S → Res β} (hP : Post ((forR (rngI lo hi) s0 f).bind (afterR k)) P R) (hz : (-(2 ^ 62) ≤ lo ∧ lo < 2 ^ 62) ∧ -(2 ^ 62) ≤ hi ∧ hi < 2 ^ 62)
    (J : S → L2.St → Hp → Prop) (h0 : J s0 σ H)
    (hb : ∀ (N : L2.St → Hp → Prop) (T : Fl S β → Prop) (x : Int) s σ' H', J s σ' H' → lo ≤ x → x < hi → (∀ s' σ2 H2, J s' σ2 H2 → T (.nx s') → N σ2 H2) → (∀ r, T (.rt r) → P r) → (∀ s' σ2 H2, J s' σ2 H2 → T (.bk s') → D'.nx σ2 H2) → Post (f x s) T R →
      g (.int x) σ' H' fun σ2 H2 => tb { D' with nx := N, ct := N, bk := D'.nx } σ2 H2)
    (hd : ∀ s σ' H', J s σ' H' → Post (k s) P R → D'.nx σ' H') : Rng2 [.int lo, .int hi] g tb D' σ H :=
  ⟨lo, hi, rfl, ⟨hz.1.1, hz.1.2, hz.2.1, hz.2.2⟩, forRng hP J h0 hb hd⟩

/-! comprehensions -/
def compL : List α → S → (α → S → Res (Option R' × S)) → Res (List R' × S)
  | [], s, _ => .ok ([], s)
  | x :: xs, s, f => (f x s).bind fun r => (compL xs r.2 f).bind fun q => .ok (match r.1 with | some b => b :: q.1 | none => q.1, q.2)
def compR (l : List α) (s : S) (f : α → S → Res (Option R' × S)) : Res (List R' × S) := guardR (l.length ≤ 1000000) (compL l s f)
def compT (l : List α) (f : α → S → Res (Option R' × S)) (k : List R' × S → Res β) (acc : List R') (P : β → Prop) (R : Err → Prop) : Option R' × S → Prop
  | (some b, s) => Post ((compL l s f).bind fun q => k (acc ++ [b] ++ q.1, q.2)) P R
  | (none, s) => Post ((compL l s f).bind fun q => k (acc ++ q.1, q.2)) P R
theorem Post.compS {l : List α} {i : Nat} {s : S} {f : α → S → Res (Option R' × S)} {k : List R' × S → Res β} {acc : List R'} {x : α} (h : Post ((compL (l.drop i) s f).bind fun q => k (acc ++ q.1, q.2)) P R) (hx : l[i]? = some x) :
    Post (f x s) (compT (l.drop (i + 1)) f k acc P R) R := by
  obtain ⟨hi, e⟩ := List.getElem?_eq_some_iff.mp hx
  rw [List.drop_eq_getElem_cons hi, e] at h
  have h2 := (Post.bind (Post.bind h))
  refine h2.mono (fun r q => ?_) fun _ q => q
  obtain ⟨o, s'⟩ := r
  cases o with
  | some b =>
    show Post ((compL (l.drop (i + 1)) s' f).bind fun q => k (acc ++ [b] ++ q.1, q.2)) P R
    have q1 : Post ((compL (l.drop (i + 1)) s' f).bind fun q => .ok (b :: q.1, q.2)) (fun a => Post (k (acc ++ a.1, a.2)) P R) R := q
    generalize compL (l.drop (i + 1)) s' f = m at q1 ⊢
    cases m with
    | ok a =>
      have q2 : Post (k (acc ++ (b :: a.1), a.2)) P R := q1.ok
      show Post (k (acc ++ [b] ++ a.1, a.2)) P R
      rw [List.append_assoc]
      exact q2
    | err e => exact ⟨q1.h0⟩
    | stuck => exact ⟨q1.h0⟩
  | none =>
    show Post ((compL (l.drop (i + 1)) s' f).bind fun q => k (acc ++ q.1, q.2)) P R
    have q1 : Post ((compL (l.drop (i + 1)) s' f).bind fun q => .ok (q.1, q.2)) (fun a => Post (k (acc ++ a.1, a.2)) P R) R := q
    generalize compL (l.drop (i + 1)) s' f = m at q1 ⊢
    cases m
    · exact q1.ok
    · exact ⟨q1.h0⟩
    · exact ⟨q1.h0⟩
theorem h_app1 [Enc α] {l : List α} {b : α} {y : V} {N : Hp → Prop} (w : Ex B H) (m : Mu K B H p (l.map enc)) (r : Rep K B y (enc b)) (hz : l.length < sizeLine) (h : ∀ H', Stp [p] B H B H' → Mu K B H' p ((l ++ [b]).map enc) → N H') :
    ∃ acc, H p = some (.lst acc) ∧ acc.length < sizeLine ∧ N (upd H p (.lst (acc ++ [y]))) := by
  obtain ⟨hb, xs, hp, hr⟩ := id m
  refine ⟨xs, hp, by rw [hr.length, List.length_map]; exact hz, ?_⟩
  have rl : RepL K B (xs ++ [y]) ((l ++ [b]).map enc) := by
    rw [List.map_append]
    exact hr.append (.cons r .nil)
  obtain ⟨s, m'⟩ := Stp.mut w m rl
  exact h _ s m'
def LcL (K : PySem.W.Frag) (v : V) (g : TG) (tt : TT) (te : TE) (vs : List Nat) (σ : L2.St) (H : Hp) (Q : VK) : Prop := tLc (iList K (tC v)) g tt te vs σ H Q
theorem h_lcE {vs : List Nat} {tl : TE} (h : tl σ H fun x H1 => LcL K x g tt te vs σ H1 Q) : tLc (iList K tl) g tt te vs σ H Q := h
def LcT (σ : L2.St) (vs : List Nat) (tt : TT) (te : TE) (Dl : Addr) (N : Hp → Prop) : L2.St → Hp → Prop := fun σ2 H2 => wipe σ2 vs = wipe σ vs ∧ tt σ2 H2 fun b H3 =>
  if b = true then te σ2 H3 fun y H4 => ∃ acc, H4 Dl = some (.lst acc) ∧ acc.length < sizeLine ∧ N (upd H4 Dl (.lst (acc ++ [y]))) else N H3
def App (Dl : Addr) (N : Hp → Prop) : VK := fun y H4 => ∃ acc, H4 Dl = some (.lst acc) ∧ acc.length < sizeLine ∧ N (upd H4 Dl (.lst (acc ++ [y])))
theorem h_lcT {vs : List Nat} {Dl : Addr} {N : Hp → Prop} {σ2 : L2.St} (e : wipe σ2 vs = wipe σ vs) (h : te σ2 H (App Dl N)) : LcT σ vs tYes te Dl N σ2 H := ⟨e, h⟩
theorem h_lcI {vs : List Nat} {Dl : Addr} {N : Hp → Prop} {σ2 : L2.St} (e : wipe σ2 vs = wipe σ vs) (h : tt σ2 H fun b H3 => if b = true then te σ2 H3 (App Dl N) else N H3) : LcT σ vs tt te Dl N σ2 H := ⟨e, h⟩
theorem h_app [Enc α] {l : List α} {b : α} {y : V} {N : Hp → Prop} (w : Ex B H) (m : Mu K B H p (l.map enc)) (r : Rep K B y (enc b)) (hz : l.length < sizeLine) (h : ∀ H', Stp [p] B H B H' → Mu K B H' p ((l ++ [b]).map enc) → N H') : App p N y H := h_app1 w m r hz h
theorem h_lcL [Enc α] {l : List α} {s0 : S} {f : α → S → Res (Option R' × S)} {k : List R' × S → Res β} {vs : List Nat} (hP : Post ((compR l s0 f).bind k) P R) (hs : SqL K H p xs) (hr : RepL K B xs (l.map enc))
    (J : Addr → List R' → S → Hp → Prop) (h0 : ∀ Dl, H Dl = none → J Dl [] s0 (upd H Dl (.lst []))) (hl : ∀ Dl acc s H', J Dl acc s H' → SqL K H' p xs)
    (hb : ∀ (Dl : Addr) (N : Hp → Prop) (T : Option R' × S → Prop) (x : α) v acc s H', J Dl acc s H' → Rep K B v (enc x) → acc.length < sizeLine → (∀ b s' H2, J Dl (acc ++ [b]) s' H2 → T (some b, s') → N H2) → (∀ s' H2, J Dl acc s' H2 → T (none, s') → N H2) → Post (f x s) T R →
      g v (wipe σ vs) H' (LcT σ vs tt te Dl N))
    (hd : ∀ Dl acc s H', J Dl acc s H' → Post (k (acc, s)) P R → Q (.ref Dl) H') : LcL K (.ref p) g tt te vs σ H Q := by
  refine ⟨p, rfl, ⟨xs, hs⟩, fun Dl hD => ?_⟩
  unfold compR at hP
  have hz : l.length ≤ 1000000 := by
    by_cases c : l.length ≤ 1000000
    · exact c
    · unfold guardR at hP; rw [if_neg c] at hP; exact hP.elim
  unfold guardR at hP
  rw [if_pos hz] at hP
  refine lc_list (K := K) (a := p) (xs := xs) (fun i H' => ∃ acc s, J Dl acc s H' ∧ acc.length ≤ i ∧ Post ((compL (l.drop i) s f).bind fun q => k (acc ++ q.1, q.2)) P R) ⟨[], s0, h0 Dl hD, Nat.le_refl _, hP⟩ (fun i H' _ ⟨acc, s, j, _⟩ => hl Dl acc s H' j) ?_ ?_
  · rintro i y H' hi ⟨acc, s, j, hn, q⟩
    have h1 := (List.getElem?_eq_some_iff.mp hi).1
    rw [hr.length, List.length_map] at h1
    obtain ⟨x, hx⟩ : ∃ x, l[i]? = some x := ⟨l[i], List.getElem?_eq_getElem h1⟩
    obtain ⟨u, hu, ru⟩ := hr.get (i := i) (d := enc x) (by rw [List.getElem?_map, hx]; rfl)
    rw [hi] at hu; cases hu
    exact hb Dl _ _ x y acc s H' j ru (Nat.lt_of_le_of_lt (Nat.le_trans hn (Nat.le_trans (Nat.le_of_lt h1) hz)) (by decide)) (fun b s' H2 j2 t2 => ⟨acc ++ [b], s', j2, by rw [List.length_append]; exact Nat.succ_le_succ hn, t2⟩) (fun s' H2 j2 t2 => ⟨acc, s', j2, Nat.le_succ_of_le hn, t2⟩) (q.compS hx)
  · rintro H' ⟨acc, s, j, _, q⟩
    rw [hr.length, List.length_map, List.drop_eq_nil_of_le (Nat.le_refl _)] at q
    have q2 : Post (k (acc ++ [], s)) P R := q
    rw [List.append_nil] at q2
    exact hd Dl acc s H' j q2
def LcR1 (ws : List V) (g : TG) (tt : TT) (te : TE) (vs : List Nat) (σ : L2.St) (H : Hp) (Q : VK) : Prop := tLc (iRng1 (fun _ H Q => Q ws H)) g tt te vs σ H Q
theorem h_lcR1E {vs : List Nat} {ta : TA} (h : ta σ H fun ws H1 => LcR1 ws g tt te vs σ H1 Q) : tLc (iRng1 ta) g tt te vs σ H Q := h
theorem h_lcR1 {hi : Int} {s0 : S} {f : Int → S → Res (Option R' × S)} {k : List R' × S → Res β} {vs : List Nat} (hP : Post ((compR (rngI 0 hi) s0 f).bind k) P R)
    (J : Addr → List R' → S → Hp → Prop) (h0 : ∀ Dl, H Dl = none → J Dl [] s0 (upd H Dl (.lst [])))
    (hb : ∀ (Dl : Addr) (N : Hp → Prop) (T : Option R' × S → Prop) (x : Int) acc s H', J Dl acc s H' → 0 ≤ x → x < hi → acc.length < sizeLine → (∀ b s' H2, J Dl (acc ++ [b]) s' H2 → T (some b, s') → N H2) → (∀ s' H2, J Dl acc s' H2 → T (none, s') → N H2) → Post (f x s) T R →
      g (.int x) (wipe σ vs) H' (LcT σ vs tt te Dl N))
    (hd : ∀ Dl acc s H', J Dl acc s H' → Post (k (acc, s)) P R → Q (.ref Dl) H') (hlo : -(2 ^ 62) ≤ hi) : LcR1 [.int hi] g tt te vs σ H Q := by
  unfold compR at hP
  have hz : (rngI 0 hi).length ≤ 1000000 := by
    by_cases c : (rngI 0 hi).length ≤ 1000000
    · exact c
    · unfold guardR at hP; rw [if_neg c] at hP; exact hP.elim
  unfold guardR at hP
  rw [if_pos hz] at hP
  rw [rngI_len, Int.sub_zero] at hz
  refine ⟨hi, rfl, hlo, by omega, fun Dl hD => ?_⟩
  refine lc_range (lo := 0) (n := hi.toNat) (fun i H' => ∃ acc s, J Dl acc s H' ∧ acc.length ≤ i ∧ Post ((compL ((rngI 0 hi).drop i) s f).bind fun q => k (acc ++ q.1, q.2)) P R) ⟨[], s0, h0 Dl hD, Nat.le_refl _, hP⟩ ?_ ?_
  · rintro i H' hi' ⟨acc, s, j, hn, q⟩
    have hx := rngI_get (lo := 0) (hi := hi) (i := i) (by omega)
    have e : (0 : Int) + (i : Int) = (i : Int) := Int.zero_add _
    exact hb Dl _ _ (0 + (i : Int)) acc s H' j (by omega) (by omega) (Nat.lt_of_le_of_lt (Nat.le_trans hn (Nat.le_trans (Nat.le_of_lt hi') hz)) (by decide)) (fun b s' H2 j2 t2 => ⟨acc ++ [b], s', j2, by rw [List.length_append]; exact Nat.succ_le_succ hn, t2⟩) (fun s' H2 j2 t2 => ⟨acc, s', j2, Nat.le_succ_of_le hn, t2⟩) (q.compS hx)
  · rintro H' ⟨acc, s, j, _, q⟩
    rw [List.drop_eq_nil_of_le (by rw [rngI_len]; omega)] at q
    have q2 : Post (k (acc ++ [], s)) P R := q
    rw [List.append_nil] at q2
    exact hd Dl acc s H' j q2
end

section
variable {K : PySem.W.Frag} {B B' H H' B0 H0 : Hp} {W : List Addr} {p : Addr} {xs : List V} {ds : List D} {v : V} {a b c d : L2.St → Hp → Prop} {rt : VK} {σ : L2.St}
theorem Rep.sqB (r : Rep K B v (.lst ds)) : ∃ p xs, v = .ref p ∧ SqL K B p xs ∧ RepL K B xs ds := by
  cases r with
  | @lst p xs _ hp r => exact ⟨p, xs, rfl, hp, r⟩
theorem Bor.sq0 (m : Bor K B0 H0 W v ds) : ∃ p xs, v = .ref p ∧ RepL K B0 xs ds ∧ ∀ B' H', Stp W B0 H0 B' H' → SqL K H' p xs := by
  obtain ⟨p, xs, e, hp, r⟩ := m
  refine ⟨p, xs, e, r, fun B' H' s => ?_⟩
  rcases hp with ⟨hp | ⟨o, hp⟩, hw⟩ | hp
  · exact .inl (.inl (s.fr p _ hw hp))
  · exact .inl (.inr ⟨o, s.fr p _ hw hp⟩)
  · exact .inr hp
theorem h_ct (h : d σ H) : tCont (Ends.mk a rt b d) σ H := h
theorem h_bk (h : b σ H) : tBreak (Ends.mk a rt b d) σ H := h
end

/-! ### lists that change -/
def setR {α : Type} (l : List α) (i : Int) (x : α) : Res (List α) := match ixN l.length i with | some j => .ok (l.set j x) | none => .stuck
def Bm (K : PySem.W.Frag) (T : String) (r : V → List V → Hp → VK → Prop) (t : TA) (σ : L2.St) (x : V) (H : Hp) (Q : VK) : Prop := tyV K T x H ∧ t σ H fun xs H2 => r x xs H2 Q
def Bm0 (K : PySem.W.Frag) (T : String) (r : V → List V → Hp → VK → Prop) (σ : L2.St) (x : V) (H : Hp) (Q : VK) : Prop := tyV K T x H ∧ r x [] H Q
section
variable {K : PySem.W.Frag} {σ : L2.St} {B H : Hp} {Q : VK} {p q : Addr} {v y : V} {te to ti : TE} {t : TA} {D' : Ends} {z : TS} {i : Int} {r : V → List V → Hp → VK → Prop}
theorem h_bm {T : String} (h : to σ H fun x H1 => Bm K T r t σ x H1 Q) : tBM K T r to t σ H Q := h
theorem h_bm0 {T : String} (h : to σ H fun x H1 => Bm0 K T r σ x H1 Q) : tBM0 K T r to σ H Q := h
theorem Mu.tyV {ds : List D} (m : Mu K B H p ds) : tyV K "list" (.ref p) H := by
  obtain ⟨hb, xs, hp, _⟩ := m
  exact .inl ⟨rfl, _, .inl (.inl hp)⟩
theorem h_bmL {ds : List D} (m : Mu K B H p ds) (h : t σ H fun xs H2 => r (.ref p) xs H2 Q) : Bm K "list" r t σ (.ref p) H Q := ⟨m.tyV, h⟩
theorem h_bmL0 {ds : List D} (m : Mu K B H p ds) (h : r (.ref p) [] H Q) : Bm0 K "list" r σ (.ref p) H Q := ⟨m.tyV, h⟩
theorem h_append {α : Type} [Enc α] {l : List α} {b : α} (w : Ex B H) (m : Mu K B H p (l.map enc)) (ry : Rep K B y (enc b)) (hz : l.length < 1000000) (h : ∀ H', Stp [p] B H B H' → Mu K B H' p ((l ++ [b]).map enc) → Q .non H') : rAppend (.ref p) [y] H Q := by
  obtain ⟨hb, xs, hp, hr⟩ := id m
  refine ⟨p, xs, y, rfl, rfl, hp, by rw [hr.length, List.length_map]; exact Nat.lt_of_lt_of_le hz (by decide), ?_⟩
  have rl : RepL K B (xs ++ [y]) ((l ++ [b]).map enc) := by
    rw [List.map_append]
    exact hr.append (.cons ry .nil)
  obtain ⟨s, m'⟩ := Stp.mut w m rl
  exact h _ s m'
theorem h_extend {α : Type} [Enc α] {l l2 : List α} (w : Ex B H) (m : Mu K B H p (l.map enc)) (m2 : Mu K B H q (l2.map enc)) (hz : l.length + l2.length ≤ 1000000) (h : ∀ H', Stp [p] B H B H' → Mu K B H' p ((l ++ l2).map enc) → Q .non H') : rExtend (.ref p) [.ref q] H Q := by
  obtain ⟨hb, xs, hp, hr⟩ := id m
  obtain ⟨hb2, ys, hp2, hr2⟩ := id m2
  refine ⟨p, q, xs, ys, rfl, rfl, hp, hp2, by rw [hr.length, hr2.length, List.length_map, List.length_map]; exact Nat.le_trans hz (by decide), ?_⟩
  have rl : RepL K B (xs ++ ys) ((l ++ l2).map enc) := by
    rw [List.map_append]
    exact hr.append hr2
  obtain ⟨s, m'⟩ := Stp.mut w m rl
  exact h _ s m'
theorem RepL.set : ∀ {vs : List V} {ds : List D} {j : Nat} {d : D}, RepL K B vs ds → Rep K B v d → RepL K B (vs.set j v) (ds.set j d)
  | _, _, _, _, .nil, _ => .nil
  | _, _, 0, _, .cons _ t, r => .cons r t
  | _, _, j + 1, _, .cons h t, r => .cons h (RepL.set t r)
theorem Post.set {α β : Type} {l : List α} {x : α} {k : List α → Res β} {P : β → Prop} {R : Err → Prop} (h : Post ((setR l i x).bind k) P R) : ∃ j, ixN l.length i = some j ∧ Post (k (l.set j x)) P R := by
  unfold setR at h
  cases e : ixN l.length i with
  | none => rw [e] at h; exact h.elim
  | some j => rw [e] at h; exact ⟨j, rfl, h⟩
def SubS (K : PySem.W.Frag) (to ti : TE) (σ : L2.St) (v : V) (H : Hp) (N : L2.St → Hp → Prop) : Prop := gSub to ti rSetL v σ H N
theorem h_sub {N : L2.St → Hp → Prop} (h : to σ H fun o H1 => ti σ H1 fun i H2 => rSetL o i v H2 fun H3 => N σ H3) : gSub to ti rSetL v σ H N := h
theorem h_asg {g : TG} (h : te σ H fun x H1 => g x σ H1 D'.nx) : tAsg te g D' σ H := h
theorem h_setL {α : Type} [Enc α] {l : List α} {b : α} {N : Hp → Prop} {j : Nat} (w : Ex B H) (m : Mu K B H p (l.map enc)) (ry : Rep K B v (enc b)) (hj : ixN l.length i = some j) (h : ∀ H', Stp [p] B H B H' → Mu K B H' p ((l.set j b).map enc) → N H') : rSetL (.ref p) (.int i) v H N := by
  obtain ⟨hb, xs, hp, hr⟩ := id m
  refine ⟨p, xs, i, j, rfl, rfl, hp, by rw [hr.length, List.length_map]; exact hj, ?_⟩
  have rl : RepL K B (xs.set j v) ((l.set j b).map enc) := by
    rw [List.map_set]
    exact hr.set ry
  obtain ⟨s, m'⟩ := Stp.mut w m rl
  exact h _ s m'
end

/-- a value with a name -/
def lt {α β : Type} (d : α) (k : α → Res β) : Res β := k d
theorem Post.lt {α β : Type} {d : α} {k : α → Res β} {P : β → Prop} {R : Err → Prop} (h : Post (Y.lt d k) P R) : Post (k d) P R := h

/-! ### lists put together, cut, compared; keywords alone -/
def rCatQ (K : PySem.W.Frag) : R2 := fun x y H Q => ∃ a b xs ys, x = .ref a ∧ y = .ref b ∧ SqL K H a xs ∧ SqL K H b ys ∧ xs.length + ys.length ≤ sizeLine ∧ NwL (xs ++ ys) H Q
theorem op_catQ {X : Cx} : OpR X (binaryOp .Add) (rCatQ X.K) := by
  intro pins s σ H x y v u Q I rx ry h
  obtain ⟨a, b, xs, ys, rfl, rfl, ha, hb, hz, q⟩ := h
  cases rx
  cases ry
  obtain ⟨its, r, p1, z1⟩ := I.list ha
  obtain ⟨its2, r2, p2, z2⟩ := I.list hb
  have hl1 := r.length
  have hl2 := r2.length
  obtain ⟨⟨cls, dd, data, sl⟩, ho, hc, n, hd⟩ := p1.isList
  obtain ⟨⟨cls2, dd2, data2, sl2⟩, ho2, hc2, n2, hd2⟩ := p2.isList
  simp only at hc hd hc2 hd2
  subst hc hd hc2 hd2
  have e : its.toArray ++ its2.toArray = (its ++ its2).toArray := by simp
  refine concat_meets ⟨_, ho, rfl⟩ ⟨_, ho2, rfl⟩ noFill_list_add seq_list_add PySem.F.slot_list_add PySem.F.entry_list_add (PySem.F.args_list_add_2 _ _) (list_addW a b its.toArray its2.toArray n n2 dd dd2 sl sl2 (by rw [List.size_toArray, List.size_toArray]; omega)) ⟨ho, ho2, ?_⟩
  rw [e]
  exact ⟨.ref _, _, I.lnew (t' := s.toks) (r.append r2) (by rw [List.length_append]; omega), rfl, q _ I.fresh⟩
def rSlQ (K : PySem.W.Frag) : V → Option Int → Option Int → Hp → VK → Prop := fun x lo hi H Q => ∃ a xs, x = .ref a ∧ SqL K H a xs ∧ NwL (cutV xs lo hi) H Q
theorem sl_Q {X : Cx} : SlR X (rSlQ X.K) := sl_list
/-- l[lo:hi] -/
def cutL {α : Type} (l : List α) (lo hi : Option Int) : List α := (l.drop (HT.sIx l.length 0 lo)).take (HT.sIx l.length l.length hi - HT.sIx l.length 0 lo)
mutual
/-- as the library's data -/
def pyD : D → PyData
  | .non => .none | .bl b => .bool b | .int i => .int i | .str x => .str x | .lst ds => .list (pyDs ds) | .tup ds => .tuple (pyDs ds) | .dic _ => .dict []
def pyDs : List D → List PyData
  | [] => []
  | d :: ds => pyD d :: pyDs ds
end
mutual
/-- no dict within -/
def flatD : D → Bool
  | .lst ds => flatDs ds | .tup ds => flatDs ds | .dic _ => false | _ => true
def flatDs : List D → Bool
  | [] => true
  | d :: ds => flatD d && flatDs ds
end
/-- == of data -/
def eqD (a b : D) : Bool := PyData.eqv (pyD a) (pyD b)
section
variable {K : PySem.W.Frag} {B B' H H' : Hp}
mutual
theorem Rep.dp (w : Ex B H) : ∀ {v : V} {d : D}, Rep K B v d → flatD d = true → Dp K H v (pyD d)
  | _, _, .non, _ => .non
  | _, _, .bl b, _ => .bl b
  | _, _, .int i, _ => .int i
  | _, _, .str x, _ => .str x
  | _, _, .lst h r, f => .lst (w.l h) (RepL.dp w r f)
  | _, _, .tup h r, f => .tup (w.t h) (RepL.dp w r f)
  | _, _, .dic h r, f => nomatch f
theorem RepL.dp (w : Ex B H) : ∀ {vs : List V} {ds : List D}, RepL K B vs ds → flatDs ds = true → DpAll K H vs (pyDs ds)
  | _, _, .nil, _ => .nil
  | _, _, .cons h t, f => by
    have f' : (flatD _ && flatDs _) = true := f
    rw [Bool.and_eq_true] at f'
    exact .cons (Rep.dp w h f'.1) (RepL.dp w t f'.2)
end
variable {σ : L2.St} {Q : VK} {x y v : V} {d e : D} {p q : Addr} {xs ys : List V} {i j k : Int} {tc te ta tb : TE} {lo hi : Option Int} {to tu : TO}
/-- what may be compared by == here -/
def okEq (d e : D) : Prop := flatD d = true ∧ flatD e = true ∧ SeqAt.shaped (pyD d) = true ∧ SeqAt.shaped (pyD e) = true
instance (d e : D) : Decidable (okEq d e) := by unfold okEq; infer_instance
theorem h_eqD (w : Ex B H) (rx : Rep K B x d) (ry : Rep K B y e) (o : okEq d e) (h : Q (.bl (eqD d e)) H) : rEqD K x y H Q := ⟨_, _, rx.dp w o.1, ry.dp w o.2.1, o.2.2.1, o.2.2.2, h⟩
theorem h_neD (w : Ex B H) (rx : Rep K B x d) (ry : Rep K B y e) (o : okEq d e) (h : Q (.bl (!eqD d e)) H) : rNeD K x y H Q := ⟨_, _, rx.dp w o.1, ry.dp w o.2.1, o.2.2.1, o.2.2.2, h⟩
theorem h_cat (s1 : SqL K H p xs) (s2 : SqL K H q ys) (hz : xs.length + ys.length ≤ sizeLine) (h : NwL (xs ++ ys) H Q) : rCatQ K (.ref p) (.ref q) H Q := ⟨p, q, xs, ys, rfl, rfl, s1, s2, hz, h⟩
theorem RepL.cat {α : Type} [Enc α] {l l2 : List α} (r : RepL K B xs (l.map enc)) (r2 : RepL K B ys (l2.map enc)) : RepL K B (xs ++ ys) ((l ++ l2).map enc) := by
  rw [List.map_append]; exact r.append r2
theorem RepL.take : ∀ {vs : List V} {ds : List D} (n : Nat), RepL K B vs ds → RepL K B (vs.take n) (ds.take n)
  | _, _, 0, _ => .nil
  | _, _, _ + 1, .nil => .nil
  | _, _, n + 1, .cons r t => .cons r (RepL.take n t)
theorem RepL.drop : ∀ {vs : List V} {ds : List D} (n : Nat), RepL K B vs ds → RepL K B (vs.drop n) (ds.drop n)
  | _, _, 0, r => r
  | _, _, _ + 1, .nil => .nil
  | _, _, n + 1, .cons _ t => RepL.drop n t
theorem RepL.cut {α : Type} [Enc α] {l : List α} (r : RepL K B xs (l.map enc)) (lo hi : Option Int) : RepL K B (cutV xs lo hi) ((cutL l lo hi).map enc) := by
  unfold cutV cutL
  rw [List.map_take, List.map_drop, r.length, List.length_map]
  exact (r.drop _).take _
theorem h_sl {r : V → Option Int → Option Int → Hp → VK → Prop} (h : te σ H fun x H1 => to σ H1 fun l H2 => tu σ H2 fun u H3 => r x l u H3 Q) : tSl r te to tu σ H Q := h
theorem h_part {N : Option Int → Hp → Prop} (h : te σ H fun x H1 => ∃ i, x = .int i ∧ N (some i) H1) : tPart te σ H N := h
theorem h_isI {f : Int → Prop} (h : f i) : ∃ j, V.int i = .int j ∧ f j := ⟨i, rfl, h⟩
theorem h_nopart {N : Option Int → Hp → Prop} (h : N none H) : tNoPart σ H N := h
theorem h_slQ (s : SqL K H p xs) (h : NwL (cutV xs lo hi) H Q) : rSlQ K (.ref p) lo hi H Q := ⟨p, xs, rfl, s, h⟩
theorem h_ch {g g' : Int → Int → Bool} (hc : ∀ Q : VK, Q (.int k) H → tc σ H Q) (h : Q (.bl (g i j && g' j k)) H) :
    rI0 (fun i j => .bl (g i j)) (.int i) (.int j) H (fun z H3 => ∃ c, z = .bl c ∧ (if c = true then tc σ H3 fun w' H4 => rI0 (fun i j => .bl (g' i j)) (.int j) w' H4 Q else Q (.bl false) H3)) := by
  refine ⟨i, j, rfl, rfl, g i j, rfl, ?_⟩
  cases e : g i j with
  | true =>
    refine h_iteT (hc _ ?_)
    rw [e, Bool.true_and] at h
    exact ⟨j, k, rfl, rfl, h⟩
  | false =>
    rw [e, Bool.false_and] at h
    exact h_iteF h
end
/-- f(k = v, ..) -/
def tCallK0 (sp : Sp) (gV : List V → List V) (E : XK) (tk : TA) : TE := fun σ H Q => tk σ H fun zs H2 => sp (gV zs) H2 Q E
theorem pe_callK0 {X : Cx} {CX : CXT} {k : Nat} {f : Addr} {fd : FuncData} {ps ks : List Str} {sp : Sp} {E : XK} {x : Str} {p pos : Pos} {kws : List Keyword} {tk : TA} {g : List Value → List Value → List Value} {gV : List V → List V → List V}
    (F : FnOk X.prog X.w X.K X.mg X.base CX k f fd ps sp) (hr : Room k X.A) (hg : Gl X x) (hm : X.mg x = some (.ref f)) (hk : PySem.W.keepIn X.K (.ref f) = true) (hb : KBinds X.K fd ps ks g gV) (hx : Passes CX X E)
    (hkw : PK X kws tk) (hall : (backToKw pos (keywordEach kws X.env)).all (·.1.isSome) = true := by rfl) (hks : (backToKw pos (keywordEach kws X.env)).filterMap (·.1) = ks := by rfl)
    (hdb : (x == ("__debug__" : Str)) = false := by decide)
    (hpl : ((backTo pos (starEach [] X.env)).any (·.1) || (backToKw pos (keywordEach kws X.env)).any (·.1.isNone)) = false := by rfl) :
    PE X (.Call (.Name x p) [] kws pos) (tCallK0 sp (gV []) E tk) := by
  refine ⟨fun pins s σ H Q I h => ?_⟩
  refine wpAny_Call_Name_kw (ld_glob I hg hm ?_ hdb)
  refine PySem.W.callWith_KW0 (h₀ := X.base) I.ok.mod.kin hk hall ?_ hpl
  refine thn (hkw.run pos pins s σ H _ I h) fun ws s2 ⟨zs, H2, I2, rz, q2⟩ => ⟨I2.kIn, ?_⟩
  rw [hks]
  exact run_fnk F hr hb hx I2 .nil rz q2
theorem h_callK0 {σ : L2.St} {H : Hp} {Q : VK} {sp : Sp} {gV : List V → List V} {E : XK} {tk : TA} (h : tk σ H fun zs H2 => sp (gV zs) H2 Q E) : tCallK0 sp gV E tk σ H Q := h
theorem h_callK {σ : L2.St} {H : Hp} {Q : VK} {sp : Sp} {gV : List V → List V → List V} {E : XK} {t tk : TA} (h : t σ H fun vs H1 => tk σ H1 fun zs H2 => sp (gV vs zs) H2 Q E) : tCallK sp gV E t tk σ H Q := h
theorem hu64_of {A : Around} {k : Nat} (hr : Room k A) : A.units + 64 < cLine := Nat.lt_of_le_of_lt (Nat.add_le_add_left (by decide : 64 ≤ 64) _) hr.units

/-! ### dicts as data -/
section
variable {K : PySem.W.Frag} {B H : Hp} {σ : L2.St} {Q : VK} {tk tv : TE} {v : V} {d : D} {i : Int} {p : Addr} {xs : List V}
theorem h_disp1I (hk : ∀ (H' : Hp) (Q : VK), Q (.int i) H' → tk σ H' Q) (hv : ∀ (H' : Hp) (Q : VK), Q v H' → tv σ H' Q) (w : Ex B H) (rv : Rep K B v d)
    (h : ∀ p B' H', Stp [] B H B' H' → Rep K B' (.ref p) (.dic [(.inl i, d)]) → Q (.ref p) H') : tDisp [(tk, tv)] σ H Q := fun p hp => by
  show tk σ (upd H p (.dK [])) _
  refine hk _ _ (hv _ _ ⟨upd_same, [(.inl i, v)], rfl, (by show 1 ≤ 15; decide), ?_⟩)
  rw [upd_upd]
  have hb := w.none hp
  exact h p _ _ (Stp.new w hp) (.dic upd_same (.cons (rv.mono (Ex.new hb)) .nil))
theorem h_dnew (w : Ex B H) (h : ∀ p B' H', Stp [] B H B' H' → Rep K B' (.ref p) (.dic []) → Q (.ref p) H') : tDNewK σ H Q := fun p hp => h p _ _ (Stp.new w hp) (.dic upd_same .nil)
def rDictP (K : PySem.W.Frag) : List V → Hp → VK → Prop := fun xs H Q => ∃ (a : Addr) (ps : List Addr) (kvs : List (Key × V)), xs = [.ref a] ∧ SqL K H a (ps.map V.ref) ∧ Paired (fun p kv => SqT K H p [kV kv.1, kv.2]) ps kvs ∧
    ∀ p, H p = none → Q (.ref p) (upd H p (.dK (mergeK [] kvs)))
theorem cr_dict {X : Cx} (hc : X.calm = true) : CallR X (.type "dict") (rDictP X.K) := call_dictP hc
def vD : V → D
  | .int i => .int i | .bl b => .bl b | .str x => .str x | _ => .non
/-- dict(pairs of ints), as data -/
def dictI (l : List (Tp2 Int Int)) : List (Key × D) := (mergeK [] (l.map fun t => ((Sum.inl t.a : Key), V.int t.b))).map fun kv => (kv.1, vD kv.2)
theorem putK_ints {kvs : List (Key × V)} {k : Key} {j : Int} (h : ∀ kv ∈ kvs, ∃ i, kv.2 = V.int i) : ∀ kv ∈ putK kvs k (V.int j), ∃ i, kv.2 = V.int i := by
  intro kv m
  unfold putK at m
  split at m
  · obtain ⟨q, hq, e⟩ := List.mem_map.mp m
    rw [← e]
    split
    · exact ⟨j, rfl⟩
    · exact h q hq
  · rcases List.mem_append.mp m with m | m
    · exact h kv m
    · rw [List.mem_singleton.mp m]; exact ⟨j, rfl⟩
theorem merge_ints : ∀ {l : List (Tp2 Int Int)} {acc : List (Key × V)}, (∀ kv ∈ acc, ∃ i, kv.2 = V.int i) → ∀ kv ∈ mergeK acc (l.map fun t => ((Sum.inl t.a : Key), V.int t.b)), ∃ i, kv.2 = V.int i
  | [], _, h => h
  | t :: r, acc, h => merge_ints (l := r) (putK_ints h)
theorem RepK.ints : ∀ {kvs : List (Key × V)}, (∀ kv ∈ kvs, ∃ i, kv.2 = V.int i) → RepK K B kvs (kvs.map fun kv => (kv.1, vD kv.2))
  | [], _ => .nil
  | (k, v) :: r, h => by
    obtain ⟨i, e⟩ := h (k, v) List.mem_cons_self
    have e' : v = V.int i := e
    subst e'
    exact .cons (.int i) (RepK.ints fun kv m => h kv (List.mem_cons_of_mem _ m))
theorem pairs_D (w : Ex B H) : ∀ {xs : List V} {l : List (Tp2 Int Int)}, RepL K B xs (l.map enc) → ∃ ps : List Addr, xs = ps.map V.ref ∧ Paired (fun p (kv : Key × V) => SqT K H p [kV kv.1, kv.2]) ps (l.map fun t => ((Sum.inl t.a : Key), V.int t.b))
  | [], [], _ => ⟨[], rfl, .nil⟩
  | _ :: _, [], r => nomatch r
  | [], _ :: _, r => nomatch r
  | v :: vs, t :: l, r => by
    cases r with
    | cons h q =>
      obtain ⟨ps, e, pr⟩ := pairs_D w q
      obtain ⟨p, ys, rfl, hs, hr⟩ := Rep.st w (show Rep K B v (.tup [enc t.a, enc t.b]) from h)
      cases hr with
      | cons h1 t1 =>
        cases t1 with
        | cons h2 t2 =>
          cases t2
          cases h1
          cases h2
          exact ⟨p :: ps, by rw [e]; rfl, .cons hs pr⟩
theorem h_dictP {l : List (Tp2 Int Int)} (w : Ex B H) (s : SqL K H p xs) (r : RepL K B xs (l.map enc)) (h : ∀ p B' H', Stp [] B H B' H' → Rep K B' (.ref p) (.dic (dictI l)) → Q (.ref p) H') : rDictP K [.ref p] H Q := by
  obtain ⟨ps, e, pr⟩ := pairs_D w r
  subst e
  exact ⟨p, ps, _, rfl, s, pr, fun q hq => h q _ _ (Stp.new w hq) (.dic upd_same (RepK.ints (merge_ints fun _ m => nomatch m)))⟩
end
theorem RepL.toD {K : PySem.W.Frag} {B : Hp} {α : Type} [Enc α] {xs : List V} {l : List α} (r : RepL K B xs (l.map enc)) : RepL K B xs ((l.map enc : List D).map enc) := by
  have e : (l.map enc : List D).map enc = l.map enc := List.map_id' _
  rw [e]; exact r
/-- a thing that is an int -/
def asI (d : D) : Res Int := match d with | .int i => .ok i | _ => .stuck
theorem Post.asI {β : Type} {d : D} {k : Int → Res β} {P : β → Prop} {R : Err → Prop} (h : Post ((Y.asI d).bind k) P R) : ∃ i, d = .int i ∧ Post (k i) P R := by
  cases d with
  | int i => exact ⟨i, rfl, h⟩
  | _ => exact h.elim
/-- a pair taken apart -/
def un2 {α β γ : Type} (k : α → β → γ) (p : α × β) : γ := k p.1 p.2
theorem Post.un2 {α β γ : Type} {k : α → β → Res γ} {a : α} {b : β} {P : γ → Prop} {R : Err → Prop} (h : Post (Y.un2 k (a, b)) P R) : Post (k a b) P R := h
/-- a thing that is a list | a tuple -/
def asL (d : D) : Res (List D) := match d with | .lst l => .ok l | _ => .stuck
def asT (d : D) : Res (List D) := match d with | .tup l => .ok l | _ => .stuck
theorem enc_Ds (l : List D) : (l.map enc : List D) = l := List.map_id' _
theorem Post.asL {β : Type} {d : D} {k : List D → Res β} {P : β → Prop} {R : Err → Prop} (h : Post ((Y.asL d).bind k) P R) : ∃ l : List D, d = .lst (l.map enc) ∧ Post (k l) P R := by
  cases d with
  | lst l => exact ⟨l, by rw [enc_Ds], h⟩
  | _ => exact h.elim
theorem Post.asT {β : Type} {d : D} {k : List D → Res β} {P : β → Prop} {R : Err → Prop} (h : Post ((Y.asT d).bind k) P R) : ∃ l : List D, d = .tup (l.map enc) ∧ Post (k l) P R := by
  cases d with
  | tup l => exact ⟨l, by rw [enc_Ds], h⟩
  | _ => exact h.elim
section
variable {K : PySem.W.Frag} {B H : Hp} {Q : VK} {p : Addr} {xs : List V}
theorem RepL.bools : ∀ {xs : List V} {bs : List Bool}, RepL K B xs (bs.map enc) → xs = bs.map V.bl
  | [], [], _ => rfl
  | _ :: _, [], r => nomatch r
  | [], _ :: _, r => nomatch r
  | v :: vs, b :: bs, r => by
    cases r with
    | cons h t =>
      cases h
      rw [RepL.bools t]
      rfl
theorem RepL.intsV : ∀ {xs : List V} {bs : List Int}, RepL K B xs (bs.map enc) → xs = bs.map V.int
  | [], [], _ => rfl
  | _ :: _, [], r => nomatch r
  | [], _ :: _, r => nomatch r
  | v :: vs, b :: bs, r => by
    cases r with
    | cons h t =>
      cases h
      rw [RepL.intsV t]
      rfl
theorem h_all {bs : List Bool} (s : SqL K H p xs) (r : RepL K B xs (bs.map enc)) (h : Q (.bl (bs.all id)) H) : rAll K [.ref p] H Q := ⟨p, bs, rfl, by rw [← r.bools]; exact s, h⟩
theorem h_any {bs : List Bool} (s : SqL K H p xs) (r : RepL K B xs (bs.map enc)) (h : Q (.bl (bs.any id)) H) : rAny K [.ref p] H Q := ⟨p, bs, rfl, by rw [← r.bools]; exact s, h⟩
theorem h_sum {ns : List Int} (s : SqL K H p xs) (r : RepL K B xs (ns.map enc)) (h : Q (.int ns.sum) H) : rSum K [.ref p] H Q := ⟨p, ns, rfl, by rw [← r.intsV]; exact s, h⟩
end
/-! ### the top -/
/-- the law's promise -/
def spTop (K : PySem.W.Frag) : Sp := fun vs H Q _ => ∃ (a : Addr) (ns : List Int), vs = [.ref a] ∧ ns.length ≤ 63 ∧ SqL K H a (ns.map V.int) ∧ ∀ H', Q (.bl true) H'
theorem top_of {K : PySem.W.Frag} {m : List Int → Res Bool} (hm : ∀ ns : List Int, ns.length ≤ 63 → m ns = .ok true) {vs : List V} {H : Hp} {Q : VK} {E : XK} (h : spTop K vs H Q E) :
    ∃ (B : Hp) (v : V) (a : List Int), Ex B H ∧ vs = [v] ∧ Bor K B H [] v (a.map enc) ∧ Post (m a) (fun r => Ret K [] B H (enc r) Q) (fun _ => False) := by
  obtain ⟨a, ns, e, hl, hs, k⟩ := h
  refine ⟨H, .ref a, ns, Ex.refl H, e, ⟨a, _, rfl, ?_, RepL.ints ns⟩, ?_⟩
  · rcases hs with hs | hs
    · exact .inl ⟨hs, fun z => nomatch z⟩
    · exact .inr hs
  · rw [hm ns hl]
    refine ⟨fun v B' H' st r => ?_⟩
    cases r
    exact k H'
theorem walk_top {l : PySem.W.OpenLaw} {q : Program} {loose : List Str} {XP : (Str → Option Value) → Heap → Prop} {YP : World → Heap → Prop} {d : DefRec} {K : Params → PySem.W.Frag} {x : Str} {k : Nat} (hn : l.most = some 63) (hdf : d.params.defaults = [])
    (hr : Room k callerA) (hY : ∀ (w : World) (h : Heap), YP w h → (K w.params).In h)
    (F : ∀ (w : World) (mg : Str → Option Value) (fa : Addr) (h : Heap), (K w.params).In h → h.Ns mainGlobals mg → mg d.name = some (.ref fa) →
      ∃ fd : FuncData, (∀ (s : Shared) (u : Value), BindsTo s fd ⟨[u], []⟩ [(x, u)]) ∧ ∀ base : Heap, (K w.params).In base → base.Ns mainGlobals mg → FnOk l.prog w (K w.params) mg base CX0 k fa fd [x] (spTop (K w.params))) :
    PySem.W.WalkO q loose XP YP l.row.toRowW d [] (fun f vs => PySem.call f vs) :=
  L2.walk_of (n := 63) (k := k) (x := x) (CX := fun _ => CX0) (sp := fun w => spTop (K w.params)) hn (by decide) hdf hr hY F (fun _ _ a ns hl _ hS => ⟨a, ns, rfl, hl, hS, fun _ => rfl⟩) fun _ _ _ _ _ z => z
/-- how its arguments bind by keywords -/
theorem _root_.L2.Fun.kb {K : PySem.W.Frag} {x qual : Str} {st : Stmt} {f : Addr} {fd : FuncData} {ps ks : List Str} {g : List Value → List Value → List Value} {gV : List V → List V → List V} (F : Fun K x qual st f fd)
    (h : ∀ (kV doc pm : Value) (an : Option Addr) (cdv ct : Value) (us ws : List Value), (g us ws).length = ps.length → bindArgs (PySem.W.fnOf x qual (defArgs st) (defBody st) (defScope st) .none kV doc pm an cdv ct) ⟨us, ks.zip ws⟩ = pure (ps.zip (g us ws)))
    (r : ∀ {vs : List V} {us : List Value} {zs : List V} {ws : List Value}, Vals vs us → Vals zs ws → Vals (gV vs zs) (g us ws)) : KBinds K fd ps ks g gV := by
  obtain ⟨oc, od, kV, doc, pm, an, cdv, ct, osl, rfl, lk, hcd⟩ := F.ex
  exact ⟨fun s us ws _ hl => .of_eq (h kV doc pm an cdv ct us ws hl), r⟩

/-! ### while -/
def whileR {S R : Type} : Nat → S → (S → Res (Fl S R)) → Res (Fl S R)
  | 0, _, _ => .stuck
  | n + 1, s, g => (g s).bind fun r => match r with | .nx s' => whileR n s' g | r => .ok r
section
variable {K : PySem.W.Frag} {σ : L2.St} {H : Hp} {Q : VK} {tb t : TS} {c : TT} {D' : Ends} {S β : Type} {P : β → Prop} {E : Err → Prop}
theorem h_while {n : Nat} {s0 : S} {f : S → Res (Fl S β)} {k : S → Res β} (hP : Post ((whileR n s0 f).bind (afterR k)) P E) (J : S → L2.St → Hp → Prop) (h0 : J s0 σ H)
    (hb : ∀ (N : L2.St → Hp → Prop) (C : (L2.St → Hp → Prop) → Prop) (T : Fl S β → Prop) s σ' H', J s σ' H' → C N → (∀ s' σ2 H2, J s' σ2 H2 → T (.nx s') → N σ2 H2) → (∀ r, T (.rt r) → P r) → (∀ s' σ2 H2, J s' σ2 H2 → T (.bk s') → D'.nx σ2 H2) → Post (f s) T E →
      c σ' H' fun b H1 => if b = true then ∃ N, C N ∧ tb { D' with nx := N, ct := N, bk := D'.nx } σ' H1 else D'.nx σ' H1)
    (hd : ∀ s σ' H', J s σ' H' → Post (k s) P E → D'.nx σ' H') : tWhile c tb D' σ H := by
  refine ⟨fun m σ' H' => ∃ s, J s σ' H' ∧ Post (whileR m s f) (fun a => Post (afterR k a) P E) E, ⟨n, s0, h0, hP.bind⟩, ?_⟩
  rintro m σ' H' ⟨s, j, q⟩
  cases m with
  | zero => exact Post.elim q
  | succ m =>
    refine hb (fun σ2 H2 => ∃ s', J s' σ2 H2 ∧ Post (whileR m s' f) (fun a => Post (afterR k a) P E) E) (fun N => ∀ σ2 H2, N σ2 H2 → ∃ m', m' < m + 1 ∧ ∃ s, J s σ2 H2 ∧ Post (whileR m' s f) (fun a => Post (afterR k a) P E) E)
      (fun r => match r with | .nx s' => Post (whileR m s' f) (fun a => Post (afterR k a) P E) E | .rt r => Post (.ok r) P E | .bk s' => Post (k s') P E) s σ' H' j (fun σ2 H2 h => ⟨m, Nat.lt_succ_self m, h⟩)
      (fun s' σ2 H2 j2 t2 => ⟨s', j2, t2⟩) (fun r t2 => Post.ok t2) (fun s' σ2 H2 j2 t2 => hd s' σ2 H2 j2 t2) ?_
    refine (Post.bind q).mono (fun r q => ?_) fun _ q => q
    cases r with
    | nx s' => exact q
    | rt r => exact q.ok
    | bk s' => exact q.ok
theorem h_par {i j : Nat} {ta : TA} (h : ta σ H fun vs H1 => ∃ v w, vs = [v, w] ∧ D'.nx ((σ.set i (some v)).set j (some w)) H1) : tPar i j ta D' σ H := h
theorem h_two {N : V → V → Prop} {x y : V} (h : N x y) : ∃ v w, [x, y] = [v, w] ∧ N v w := ⟨x, y, rfl, h⟩

/-! ### errors -/
def tryR {α : Type} (m : Res α) (h : Err → Res α) : Res α := match m with | .ok a => .ok a | .err e => h e | .stuck => .stuck
theorem Post.tr {α : Type} {m : Res α} {h : Err → Res α} {P : α → Prop} {R : Err → Prop} (q : Post (tryR m h) P R) : Post m P (fun e => Post (h e) P R) := by
  obtain ⟨q⟩ := q
  refine ⟨?_⟩
  cases m
  · exact q
  · exact ⟨q⟩
  · exact q
theorem h_tryJ {m : Res (Fl S β)} {h : Err → Res (Fl S β)} {k : S → Res β} (hP : Post ((tryR m h).bind (afterR k)) P E) (J : S → L2.St → Hp → Prop)
    (h1 : ∀ (N : L2.St → Hp → Prop) (T : Fl S β → Prop), (∀ s σ' H', J s σ' H' → T (.nx s) → N σ' H') → (∀ r, T (.rt r) → P r) → Post m T (fun e => Post (h e) T E) → t { D' with nx := N } σ H)
    (h2 : ∀ s σ' H', J s σ' H' → Post (k s) P E → D'.nx σ' H') : t D' σ H := by
  refine h1 _ (fun a => Post (afterR k a) P E) (fun s σ' H' j q => h2 s σ' H' j q) (fun r q => (q : Post (.ok r) P E).ok) ?_
  exact (Post.bind hP).tr
/-- what the written part says of an error's class -/
structure ExcT (K : PySem.W.Frag) (mg : Str → Option Value) (nm : Str) (C : Addr) : Prop where
  g : mg nm = some (.ref C)
  ec : ExcC K C
  ty : PySem.W.typeIn K (.ref C) = some (.type "type")
  kp : PySem.W.keepIn K (.ref C) = true
  ve : PySem.W.subIn K (.ref C) (.type "ValueError") = some true
  is : PySem.W.isClsIn K C = true
  self : PySem.W.subIn K (.ref C) (.ref C) = some true
/-- an error that is raised with a text alone -/
structure ExcR (K : PySem.W.Frag) (mg : Str → Option Value) (nm : Str) (C : Addr) : Prop extends ExcT K mg nm C where
  ex : PySem.W.excIn K C [.type "ValueError", .type "Exception", .type "BaseException", .type "object"] "ValueError.__new__" = true
theorem ExcT.names {X : Cx} {nm : Str} {C : Addr} (T : ExcT X.K X.mg nm C) (hg : Gl X nm) (hd : (nm == ("__debug__" : Str)) = false) : Names X nm (.ref C) := ⟨hg, hd, .inl T.g⟩
theorem ExcT.exm {mg : Str → Option Value} {nm : Str} {C : Addr} (T : ExcT K mg nm C) {cls : Value} {b : Bool} (h : PySem.W.subIn K cls (.ref C) = some b) : PySem.W.exmOne K cls (.ref C) = some b := PySem.W.exm_ref T.ec.hs T.ec.hd T.ty h
theorem ExcT.kit {mg : Str → Option Value} {nm : Str} {C C2 : Addr} (T : ExcT K mg nm C) {b : Bool} (h : PySem.W.subIn K (.ref C2) (.ref C) = some b) : PySem.W.kitOne K (.ref C2) (.ref C) = some b := by
  unfold PySem.W.kitOne
  by_cases e : (Value.ref C2 == Value.ref C) = true
  · rw [if_pos e]
    have e2 : C2 = C := Value.ref.inj (beq_iff_eq.mp e)
    subst e2
    exact T.self.symm.trans h
  · rw [if_neg e]
    have h2 : (PySem.W.clsIn K C).isSome = true := T.is
    show (if ((PySem.W.clsIn K C).isSome && PySem.W.typeIn K (.ref C) == some (.type "type")) = true then PySem.W.subIn K (.ref C2) (.ref C) else none) = some b
    rw [if_pos (by rw [h2, T.ty] <;> rfl)]
    exact h
theorem ExcT.kitVE {mg : Str → Option Value} {nm : Str} {C : Addr} (T : ExcT K mg nm C) : PySem.W.kitOne K (.ref C) (.type "ValueError") = some true := by
  unfold PySem.W.kitOne
  rw [if_neg (by simp)]
  show (if PySem.W.kitMeta "ValueError" = true then PySem.W.subIn K (.ref C) (.type "ValueError") else none) = some true
  rw [if_pos (by decide +kernel)]
  exact T.ve
def tIsE (K : PySem.W.Frag) (a : Addr) (cls : Value) (d : Option Addr) (targs : TA) : TE := fun σ H Q => ∃ Dc, cls = .ref Dc ∧ d = none ∧ ExcC K Dc ∧ tCB (rIsE K Dc a) targs σ H Q
theorem pe_isE {X : Cx} {e : Expr} {a : Addr} {cls : Value} {d : Option Addr} {targs : TA} (hK : X.K = K) (h : ∀ Dc, cls = .ref Dc → d = none → ExcC K Dc → PE X e (tCB (rIsE K Dc a) targs)) : PE X e (tIsE K a cls d targs) :=
  ⟨fun pins s σ H Q I q => by
    obtain ⟨Dc, e1, e2, ec, q⟩ := q
    exact (h Dc e1 e2 ec).run pins s σ H Q I q⟩
theorem h_isE {a C : Addr} {targs : TA} {mg : Str → Option Value} {nm : Str} (T : ExcT K mg nm C) (h : targs σ H fun vs H1 => rIsE K C a vs H1 Q) : tIsE K a (.ref C) none targs σ H Q := ⟨C, rfl, rfl, T.ec, h⟩
theorem h_isER {a C C2 : Addr} {b : Bool} (h : PySem.W.kitOne K (.ref C) (.ref C2) = some b) (q : Q (.bl b) H) : rIsE K C a [.ref a, .ref C2] H Q := ⟨.ref C2, .ref C2, b, rfl, fun _ r => r, h, q⟩
theorem h_isEB {a C : Addr} {n : String} {b : Bool} (h : PySem.W.kitOne K (.ref C) (.type n) = some b) (q : Q (.bl b) H) : rIsE K C a [.ref a, .ty n] H Q := ⟨.ty n, .type n, b, rfl, fun _ r => r, h, q⟩
/-- the clause of a try meets the error -/
theorem h_wAs {C S' : Addr} {i : Nat} {ts : Addr → Value → Option Addr → TS} {Wout : WX} {mg : Str → Option Value} {nm : Str} (T : ExcT K mg nm S') (hs : PySem.W.subIn K (.ref C) (.ref S') = some true)
    (h : ∀ a, H a = none → ts a (.ref C) none { nx := fun σ' H' => D'.nx (σ'.set i none) H', rt := D'.rt, bk := fun σ' H' => D'.bk (σ'.set i none) H', ct := fun σ' H' => D'.ct (σ'.set i none) H' } (σ.set i (some (.ref a))) H) :
    wAs K (.ref S') i ts Wout D' (.ref C) none σ H := ⟨true, T.exm hs, fun _ a ha => h a ha, fun q => nomatch q⟩
theorem h_wOnly {C S' : Addr} {ts : Addr → Value → Option Addr → TS} {Wout : WX} {mg : Str → Option Value} {nm : Str} (T : ExcT K mg nm S') (hs : PySem.W.subIn K (.ref C) (.ref S') = some true)
    (h : ∀ a, H a = none → ts a (.ref C) none D' σ H) : wOnly K (.ref S') ts Wout D' (.ref C) none σ H := ⟨true, T.exm hs, fun _ a ha => h a ha, fun q => nomatch q⟩
end

/-! ### a try by its name -/
def tTryA (K : PySem.W.Frag) (c : Value) (i : Nat) (ts : Addr → Value → Option Addr → TS) (Wout : WX) (tb : WX → TS) : TS := fun D σ H => tb (wAs K c i ts Wout D) D σ H
def tTryO (K : PySem.W.Frag) (c : Value) (ts : Addr → Value → Option Addr → TS) (Wout : WX) (tb : WX → TS) : TS := fun D σ H => tb (wOnly K c ts Wout D) D σ H
section
variable {X : Cx} {n x : Str} {c : Value} {i : Nat} {body suite : List Stmt} {b₀ : Stmt} {np pos pos' : Pos} {tb : WX → TS} {ts : Addr → Value → Option Addr → TS} {Wout : WX} {D' : Ends} {σ : L2.St} {H : Hp} {K : PySem.W.Frag}
theorem ps_tryA (hs : X.stack = X.env :: X.outer) (hf : X.env.frame = some X.env.locals) (hN : X.N.Nodup) (hi : X.N[i]? = some n) (hln : X.env.kindOf n = some .local) (hc : Names X x c) (tk : Takes X Wout)
    (hb : ∀ (W : WX) (pn : List (Addr × Obj)) (xe : Value → Shared → Prop), Takes (X.tr pn xe) W → PassesOwn (model X.prog X.w) X.A X.env xe → PSs (X.tr pn xe) body (tb W))
    (hsu : ∀ (a : Addr) (oe : Obj) (cls : Value) (d : Option Addr) (pn : List (Addr × Obj)), Zc cls d oe → (∃ vs, oe.data = .fields vs) → PSs (X.suite a ((a, oe) :: pn)) (b₀ :: suite) (ts a cls d)) (hK : X.K = K := by rfl) :
    PS X (.Try body [.ExceptHandler (some (.Name x np)) (some n) (b₀ :: suite) pos'] [] [] pos) (tTryA K c i ts Wout tb) := hK ▸ ps_try_as hs hf hN hi hln hc tk hb hsu
theorem ps_tryO (hs : X.stack = X.env :: X.outer) (hf : X.env.frame = some X.env.locals) (hc : Names X x c) (tk : Takes X Wout)
    (hb : ∀ (W : WX) (pn : List (Addr × Obj)) (xe : Value → Shared → Prop), Takes (X.tr pn xe) W → PassesOwn (model X.prog X.w) X.A X.env xe → PSs (X.tr pn xe) body (tb W))
    (hsu : ∀ (a : Addr) (oe : Obj) (cls : Value) (d : Option Addr) (pn : List (Addr × Obj)), Zc cls d oe → (∃ vs, oe.data = .fields vs) → PSs (X.suite a ((a, oe) :: pn)) (b₀ :: suite) (ts a cls d)) (hK : X.K = K := by rfl) :
    PS X (.Try body [.ExceptHandler (some (.Name x np)) none (b₀ :: suite) pos'] [] [] pos) (tTryO K c ts Wout tb) := hK ▸ ps_try_only hs hf hc tk hb hsu
theorem h_tryA (h : tb (wAs K c i ts Wout D') D' σ H) : tTryA K c i ts Wout tb D' σ H := h
theorem h_tryO (h : tb (wOnly K c ts Wout D') D' σ H) : tTryO K c ts Wout tb D' σ H := h
end
theorem Post.mono2 {α : Type} {m : Res α} {P P' : α → Prop} {R R' : Err → Prop} (h : Post m P R) (hr : ∀ e, R e → R' e) (hp : ∀ a, P a → P' a) : Post m P' R' := h.mono hp hr
theorem boot_ValueError : bootBuiltins "ValueError" = some (.type "ValueError") := by decide +kernel
/-! ### things that are lists or tuples -/
def lenD (d : D) : Res Int := match d with | .lst l => .ok l.length | .tup l => .ok l.length | .str x => .ok x.length | _ => .stuck
section
variable {K : PySem.W.Frag} {B H : Hp} {Q : VK} {v : V} {d : D} {σ : L2.St} {g : TGs}
theorem Post.lenD {β : Type} {k : Int → Res β} {P : β → Prop} {R : Err → Prop} (h : Post ((Y.lenD d).bind k) P R) (hs : ∀ x, d ≠ .str x) : ∃ ds : List D, (d = .lst ds ∨ d = .tup ds) ∧ Post (k ds.length) P R := by
  cases d with
  | lst l => exact ⟨l, .inl rfl, h⟩
  | tup l => exact ⟨l, .inr rfl, h⟩
  | str x => exact absurd rfl (hs x)
  | _ => exact h.elim
theorem h_tupG {n : Nat} {p : Addr} {xs : List V} {N : L2.St → Hp → Prop} (s : SqT K H p xs) (hl : xs.length = n) (h : g xs σ H N) : gTup K n g (.ref p) σ H N := ⟨p, xs, rfl, s, hl, h⟩
theorem h_gcons {t : TG} {u : TGs} {x : V} {xs : List V} {N : L2.St → Hp → Prop} (h : t x σ H fun σ' H' => u xs σ' H' N) : gCons t u (x :: xs) σ H N := ⟨x, xs, rfl, h⟩
theorem h_gnil {N : L2.St → Hp → Prop} (h : N σ H) : gNil [] σ H N := ⟨rfl, h⟩
end

section
variable {K : PySem.W.Frag} {B H : Hp} {Q : VK} {p : Addr} {xs : List V} {d1 d2 d3 d4 d5 : D}
theorem h_lenTl {l : List D} (s : SqT K H p xs) (r : RepL K B xs (l.map enc)) (h : Q (.int l.length) H) : rLenY K [V.ref p] H Q := by
  refine ⟨p, xs, rfl, .inr s, ?_⟩
  rw [show xs.length = l.length from by rw [r.length, List.length_map]]
  exact h
theorem tup2 {x y : V} (hl : xs.length = 2) (h0 : atI xs 0 = some x) (h1 : atI xs 1 = some y) : xs = [x, y] := by
  match xs, hl with
  | [a, b], _ =>
    have e0 : a = x := Option.some.inj h0
    have e1 : b = y := Option.some.inj h1
    rw [e0, e1]
theorem tup3 {x y z : V} (hl : xs.length = 3) (h0 : atI xs 0 = some x) (h1 : atI xs 1 = some y) (h2 : atI xs 2 = some z) : xs = [x, y, z] := by
  match xs, hl with
  | [a, b, c], _ =>
    have e0 : a = x := Option.some.inj h0
    have e1 : b = y := Option.some.inj h1
    have e2 : c = z := Option.some.inj h2
    rw [e0, e1, e2]
theorem tup4 {x y z u : V} (hl : xs.length = 4) (h0 : atI xs 0 = some x) (h1 : atI xs 1 = some y) (h2 : atI xs 2 = some z) (h3 : atI xs 3 = some u) : xs = [x, y, z, u] := by
  match xs, hl with
  | [a, b, c, d], _ =>
    have e0 : a = x := Option.some.inj h0
    have e1 : b = y := Option.some.inj h1
    have e2 : c = z := Option.some.inj h2
    have e3 : d = u := Option.some.inj h3
    rw [e0, e1, e2, e3]
theorem RepL.open2 (r : RepL K B xs [d1, d2]) : ∃ u1 u2, xs = [u1, u2] ∧ Rep K B u1 d1 ∧ Rep K B u2 d2 := by
  cases r with | cons h1 r => cases r with | cons h2 r => cases r; exact ⟨_, _, rfl, h1, h2⟩
theorem RepL.open3 (r : RepL K B xs [d1, d2, d3]) : ∃ u1 u2 u3, xs = [u1, u2, u3] ∧ Rep K B u1 d1 ∧ Rep K B u2 d2 ∧ Rep K B u3 d3 := by
  cases r with | cons h1 r => cases r with | cons h2 r => cases r with | cons h3 r => cases r; exact ⟨_, _, _, rfl, h1, h2, h3⟩
theorem RepL.open4 (r : RepL K B xs [d1, d2, d3, d4]) : ∃ u1 u2 u3 u4, xs = [u1, u2, u3, u4] ∧ Rep K B u1 d1 ∧ Rep K B u2 d2 ∧ Rep K B u3 d3 ∧ Rep K B u4 d4 := by
  cases r with | cons h1 r => cases r with | cons h2 r => cases r with | cons h3 r => cases r with | cons h4 r => cases r; exact ⟨_, _, _, _, rfl, h1, h2, h3, h4⟩
end
/-! ### defs with defaults -/
structure FunV (K : PySem.W.Frag) (x qual : Str) (st : Stmt) (dv : List Value) (f : Addr) (fd : FuncData) : Prop where
  ex : ∃ (oc : Value) (od : Option Addr) (T : Addr) (o : Obj) (n : Nat) (kV doc pm : Value) (an : Option Addr) (cdv ct : Value) (osl : Array (Option Value)),
    fd = PySem.W.fnOf x qual (defArgs st) (defBody st) (defScope st) (.ref T) kV doc pm an cdv ct ∧ K.lookup f = some ⟨oc, od, .func fd, osl⟩ ∧ PySem.W.codeIn K cdv qual = true ∧ K.lookup T = some o ∧ o.data = .seq dv.toArray n
  kp : PySem.W.keepIn K (.ref f) = true
section
variable {P : Program} {w : World} {K : PySem.W.Frag} {mg : Str → Option Value} {base : Heap} {x qual : Str} {st : Stmt} {dv : List Value} {f : Addr} {fd : FuncData} {ps ks : List Str}
theorem funV_mk {oc : Value} {od an oT : Option Addr} {osl sT : Array (Option Value)} {kV doc pm cdv ct cT : Value} {T : Addr} {n : Nat} (l : K.lookup f = some ⟨oc, od, .func (PySem.W.fnOf x qual (defArgs st) (defBody st) (defScope st) (.ref T) kV doc pm an cdv ct), osl⟩)
    (c : PySem.W.codeIn K cdv qual = true) (k : PySem.W.keepIn K (.ref f) = true) (lT : K.lookup T = some ⟨cT, oT, .seq dv.toArray n, sT⟩) : FunV K x qual st dv f (PySem.W.fnOf x qual (defArgs st) (defBody st) (defScope st) (.ref T) kV doc pm an cdv ct) :=
  ⟨⟨oc, od, T, _, n, kV, doc, pm, an, cdv, ct, osl, rfl, l, c, lT, rfl⟩, k⟩
theorem FunV.okX {N : List Str} {k : Nat} {sp : Sp} (F : FunV K x qual st dv f fd) (S : FnScope N ps (defScope st)) (len : ∀ vs H Q E, sp vs H Q E → vs.length = ps.length)
    (hbody : ∀ (cdv : Value) (A : Around) (outer : List Env) (s : Shared) (H : Hp) (vs : List V) (Q : VK) (E : XK), Room k (A.deeper (envOfC qual (defScope st) s.heap.objs.size f cdv)) → sp vs H Q E →
      ∃ t, PSs (cxOf (L2.CX P w) P w K mg base N qual (defScope st) f cdv A outer s H E) (defBody st) t ∧ t { nx := fun _ H' => Q .non H', rt := Q } (start N vs) H) : FnOk P w K mg base (L2.CX P w) (k + 1) f fd ps sp := by
  obtain ⟨oc, od, T, o, n, kV, doc, pm, an, cdv, ct, osl, rfl, lk, hcd, _, _⟩ := F.ex
  exact fn_of lk hcd S len fun A outer s H vs Q E hr hsp => hbody cdv A outer s H vs Q E hr hsp
theorem FunV.ok {N : List Str} {k : Nat} {sp : Sp} (F : FunV K x qual st dv f fd) (S : FnScope N ps (defScope st)) (len : ∀ vs H Q E, sp vs H Q E → vs.length = ps.length)
    (hbody : ∀ (cdv : Value) (A : Around) (outer : List Env) (s : Shared) (H : Hp) (vs : List V) (Q : VK) (E : XK), Room k (A.deeper (envOfC qual (defScope st) s.heap.objs.size f cdv)) → sp vs H Q E →
      ∃ t, PSs (cxOf CX0 P w K mg base N qual (defScope st) f cdv A outer s H E).nox (defBody st) t ∧ t { nx := fun _ H' => Q .non H', rt := Q } (start N vs) H) : FnOk P w K mg base CX0 (k + 1) f fd ps sp := by
  obtain ⟨oc, od, T, o, n, kV, doc, pm, an, cdv, ct, osl, rfl, lk, hcd, _, _⟩ := F.ex
  refine fn_of lk hcd S len fun A outer s H vs Q E hr hsp => ?_
  obtain ⟨t, h, q⟩ := hbody cdv A outer s H vs Q E hr hsp
  exact ⟨t, h.nox, q⟩
/-- n values are written, the defaults behind the first j fill up -/
theorem FunV.binds (F : FunV K x qual st dv f fd) (n j : Nat) (hn : n + (dv.length - j) = ps.length)
    (h : ∀ (T : Addr) (kV doc pm : Value) (an : Option Addr) (cdv ct : Value) (us : List Value), us.length = n →
      ∃ k, bindArgs (PySem.W.fnOf x qual (defArgs st) (defBody st) (defScope st) (.ref T) kV doc pm an cdv ct) ⟨us, []⟩ = seqItems? (.ref T) >>= k ∧ k (some dv.toArray) = pure (ps.zip (us ++ dv.drop j))) : Binds K fd ps (dv.drop j) := by
  obtain ⟨oc, od, T, o, m, kV, doc, pm, an, cdv, ct, osl, rfl, lk, hcd, lT, oT⟩ := F.ex
  refine fun s us X hlen => ?_
  have l2 : us.length = n := by
    rw [List.length_append, List.length_drop] at hlen
    omega
  obtain ⟨k, e1, e2⟩ := h T kV doc pm an cdv ct us l2
  refine BindsTo.of_looks fun M => ?_
  rw [e1]
  exact looks_items X lT oT (.of_pure e2)
theorem FunV.kb {g : List Value → List Value → List Value} {gV : List V → List V → List V} (F : FunV K x qual st dv f fd)
    (h : ∀ (T : Addr) (kV doc pm : Value) (an : Option Addr) (cdv ct : Value) (us ws : List Value), (g us ws).length = ps.length → ∃ k, bindArgs (PySem.W.fnOf x qual (defArgs st) (defBody st) (defScope st) (.ref T) kV doc pm an cdv ct) ⟨us, ks.zip ws⟩ = seqItems? (.ref T) >>= k ∧ k (some dv.toArray) = pure (ps.zip (g us ws)))
    (r : ∀ {vs : List V} {us : List Value} {zs : List V} {ws : List Value}, Vals vs us → Vals zs ws → Vals (gV vs zs) (g us ws)) : KBinds K fd ps ks g gV := by
  obtain ⟨oc, od, T, o, m, kV, doc, pm, an, cdv, ct, osl, rfl, lk, hcd, lT, oT⟩ := F.ex
  refine ⟨fun s us ws X hl => ?_, r⟩
  obtain ⟨k, e1, e2⟩ := h T kV doc pm an cdv ct us ws hl
  refine BindsTo.of_looks fun M => ?_
  rw [e1]
  exact looks_items X lT oT (.of_pure e2)
end
/-! ### // by what may be negative -/
def CDivZ (_ j : Int) : Prop := j ≠ 0 ∧ j.natAbs.log2 < 9000
instance {i j : Int} : Decidable (CDivZ i j) := inferInstanceAs (Decidable (_ ∧ _))
theorem op_fdivZ {X : Cx} : OpR X (binaryOp .FloorDiv) (rI CDivZ fun i j => .int (Int.fdiv i j)) := opI fun i j _ _ _ _ _ hc q => floordiv_int hc.1 q (.inl (PyProof.noPylong_of_log2 hc.2))
end Y

set_option Elab.async false
set_option linter.all false
set_option maxRecDepth 100000
set_option maxHeartbeats 4000000
namespace A
open PySem PySem.Spec PyProof.Rows L2 Y
open Y.Enc (enc)
abbrev top (i : Nat) : Stmt := PySem.Challenge.pw_lanescroll_k01_fractions_made.main.body.getD i (.Pass ⟨0, 0, 0, 0⟩)
/-! ### divisor -/
def m_divisor (a_one : Int) (a_other : Int) : Res Int :=
  lt ((absI a_one) : Int) fun x1 => lt ((absI a_other) : Int) fun x2 => (whileR (x2.natAbs + 1) ((x1, x2) : Int × Int) (fun (a12 : Int × Int) => (if (decide (0 < a12.2)) = true then guardR (0 < a12.2) <| lt ((a12.1 % a12.2) : Int) fun x16 => .ok (.nx (a12.2, x16)) else .ok (.bk (a12.1, a12.2))))).bind (afterR fun a17 => .ok a17.1)
def sp_divisor (K : PySem.W.Frag) : Sp := fun vs H Q _ => ∃ (B : Hp) (a_one : Int) (a_other : Int), Ex B H ∧ vs = [.int a_one, .int a_other] ∧ Post (m_divisor a_one a_other) (fun r => Ret K [] B H (enc r) Q) (fun _ => False)
abbrev s_divisor : Stmt := top 4
theorem sc_divisor : FnScope ["one", "other"] ["one", "other"] (defScope s_divisor) := ⟨rfl, rfl, rfl, by decide +kernel, rfl, by decide +kernel, by decide +kernel⟩
/-! ### is_number -/
def m_is_number (a_thing : D) : Res Bool :=
  (if (isA "int" a_thing) = true then .ok (!(isA "bool" a_thing)) else .ok false)
def sp_is_number (K : PySem.W.Frag) : Sp := fun vs H Q _ => ∃ (B : Hp) (v_thing : V) (a_thing : D), Ex B H ∧ vs = [v_thing] ∧ Rep K B v_thing (enc a_thing) ∧ Post (m_is_number a_thing) (fun r => Ret K [] B H (enc r) Q) (fun _ => False)
abbrev s_is_number : Stmt := top 5
theorem sc_is_number : FnScope ["thing"] ["thing"] (defScope s_is_number) := ⟨rfl, rfl, rfl, by decide +kernel, rfl, by decide +kernel, by decide +kernel⟩
/-! ### fraction -/
def m_fraction (a_top : D) (a_bottom : D) : Res (Tp2 Int Int) :=
  ((m_is_number a_top).noErr).bind fun x1 => (if x1 = true then ((m_is_number a_bottom).noErr).bind fun x7 => (if x7 = true then guardR (okEq a_bottom (enc (0 : Int))) <| (if (eqD a_bottom (enc (0 : Int))) = true then .err ⟨"NoFraction", []⟩ else (asI a_top).bind fun i13 => (asI a_bottom).bind fun i16 => ((m_divisor i13 i16).noErr).bind fun x19 => ((if (decide (i16 < 0)) = true then lt ((-x19) : Int) fun x28 => .ok x28 else .ok x19) : Res (Int)).bind fun a29 => guardR (CDivZ i13 a29) <| guardR (CDivZ i16 a29) <| .ok (⟨(Int.fdiv i13 a29), (Int.fdiv i16 a29)⟩ : (Tp2 Int Int))) else .err ⟨"NoFraction", []⟩) else .err ⟨"NoFraction", []⟩)
def sp_fraction (K : PySem.W.Frag) (mg : Str → Option Value) : Sp := fun vs H Q E => ∃ (B : Hp) (v_top : V) (a_top : D) (v_bottom : V) (a_bottom : D), Ex B H ∧ vs = [v_top, v_bottom] ∧ Rep K B v_top (enc a_top) ∧ Rep K B v_bottom (enc a_bottom) ∧ Post (m_fraction a_top a_bottom) (fun r => Ret K [] B H (enc r) Q) (fun e => Rai mg [] B H e E)
abbrev s_fraction : Stmt := top 6
theorem sc_fraction : FnScope ["top", "bottom", "share"] ["top", "bottom"] (defScope s_fraction) := ⟨rfl, rfl, rfl, by decide +kernel, rfl, by decide +kernel, by decide +kernel⟩
/-! ### is_fraction -/
def m_is_fraction (a_thing : D) : Res Bool :=
  (if (isA "tuple" a_thing) = true then (asT a_thing).bind fun l1 => (if (!decide ((l1.length : Int) = 2)) = true then .ok false else (asT a_thing).bind fun l8 => guardR (l8.length = 2) <| (ixR l8 0).bind fun x16 => (ixR l8 1).bind fun x20 => (m_is_number x16).bind fun x24 => (if x24 = true then (m_is_number x20).bind fun x30 => (if x30 = true then (asI x20).bind fun i36 => (if (decide (i36 < 1)) = true then .ok false else (asI x16).bind fun i39 => (m_divisor i39 i36).bind fun x42 => .ok (decide (x42 = 1))) else .ok false) else .ok false)) else .ok false)
def sp_is_fraction (K : PySem.W.Frag) : Sp := fun vs H Q _ => ∃ (B : Hp) (v_thing : V) (a_thing : D), Ex B H ∧ vs = [v_thing] ∧ Rep K B v_thing (enc a_thing) ∧ Post (m_is_fraction a_thing) (fun r => Ret K [] B H (enc r) Q) (fun _ => False)
abbrev s_is_fraction : Stmt := top 7
theorem sc_is_fraction : FnScope ["thing", "top", "bottom"] ["thing"] (defScope s_is_fraction) := ⟨rfl, rfl, rfl, by decide +kernel, rfl, by decide +kernel, by decide +kernel⟩
/-! ### is_moment -/
def m_is_moment (a_thing : D) : Res Bool :=
  (m_is_fraction a_thing).bind fun x1 => (if x1 = true then (asT a_thing).bind fun l7 => (ixR l7 0).bind fun x14 => (asI x14).bind fun i18 => .ok (decide (0 ≤ i18)) else .ok false)
def sp_is_moment (K : PySem.W.Frag) : Sp := fun vs H Q _ => ∃ (B : Hp) (v_thing : V) (a_thing : D), Ex B H ∧ vs = [v_thing] ∧ Rep K B v_thing (enc a_thing) ∧ Post (m_is_moment a_thing) (fun r => Ret K [] B H (enc r) Q) (fun _ => False)
abbrev s_is_moment : Stmt := top 8
theorem sc_is_moment : FnScope ["thing"] ["thing"] (defScope s_is_moment) := ⟨rfl, rfl, rfl, by decide +kernel, rfl, by decide +kernel, by decide +kernel⟩
/-! ### less -/
def m_less (a_one : (Tp2 Int Int)) (a_other : (Tp2 Int Int)) : Res Bool :=
  guardR (CMulW a_one.a a_other.b) <| guardR (CMulW a_other.a a_one.b) <| .ok (decide ((a_one.a * a_other.b) < (a_other.a * a_one.b)))
def sp_less (K : PySem.W.Frag) : Sp := fun vs H Q _ => ∃ (B : Hp) (v_one : V) (a_one : (Tp2 Int Int)) (v_other : V) (a_other : (Tp2 Int Int)), Ex B H ∧ vs = [v_one, v_other] ∧ Rep K B v_one (enc a_one) ∧ Rep K B v_other (enc a_other) ∧ Post (m_less a_one a_other) (fun r => Ret K [] B H (enc r) Q) (fun _ => False)
abbrev s_less : Stmt := top 9
theorem sc_less : FnScope ["one", "other"] ["one", "other"] (defScope s_less) := ⟨rfl, rfl, rfl, by decide +kernel, rfl, by decide +kernel, by decide +kernel⟩
/-! ### floor -/
def m_floor (a_one : (Tp2 Int Int)) : Res Int :=
  guardR (CDivW a_one.a a_one.b) <| .ok (a_one.a / a_one.b)
def sp_floor (K : PySem.W.Frag) : Sp := fun vs H Q _ => ∃ (B : Hp) (v_one : V) (a_one : (Tp2 Int Int)), Ex B H ∧ vs = [v_one] ∧ Rep K B v_one (enc a_one) ∧ Post (m_floor a_one) (fun r => Ret K [] B H (enc r) Q) (fun _ => False)
abbrev s_floor : Stmt := top 10
theorem sc_floor : FnScope ["one"] ["one"] (defScope s_floor) := ⟨rfl, rfl, rfl, by decide +kernel, rfl, by decide +kernel, by decide +kernel⟩
/-! ### _law_cell_at -/
def l_cell_at (a_script : (List Int)) (a_k : Int) : Res Int :=
  (if (decide (a_k < (a_script.length : Int))) = true then (ixR a_script a_k).bind fun x9 => .ok x9 else .ok 0)
def sp__law_cell_at (K : PySem.W.Frag) : Sp := fun vs H Q _ => ∃ (B : Hp) (v_script : V) (a_script : (List Int)) (a_k : Int), Ex B H ∧ vs = [v_script, .int a_k] ∧ Bor K B H [] v_script (a_script.map enc) ∧ Post (l_cell_at a_script a_k) (fun r => Ret K [] B H (enc r) Q) (fun _ => False)
abbrev s__law_cell_at : Stmt := top 12
theorem sc__law_cell_at : FnScope ["_law_script", "_law_k"] ["_law_script", "_law_k"] (defScope s__law_cell_at) := ⟨rfl, rfl, rfl, by decide +kernel, rfl, by decide +kernel, by decide +kernel⟩
/-! ### _law_digit -/
def l_digit (a_state : (List Int)) (a_base : Int) : Res (Int × (List Int)) :=
  ((if (decide ((a_state.length : Int) = 1)) = true then (ixR a_state 0).bind fun x12 => guardR (a_state.length + ([(x12 % 2147483647), 0] : List Int).length ≤ 1000000) <| .ok (a_state ++ ([(x12 % 2147483647), 0] : List Int)) else .ok a_state) : Res ((List Int))).bind fun a26 => (ixR a26 0).bind fun x34 => (if (decide (a_base ≤ x34)) = true then (ixR a26 0).bind fun x42 => guardR (0 < a_base) <| lt ((x42 % a_base) : Int) fun x46 => (ixR a26 0).bind fun x51 => guardR (CDivW x51 a_base) <| (setR a26 0 (x51 / a_base)).bind fun x55 => .ok (x46, x55) else (ixR a26 2).bind fun x64 => (setR a26 2 (x64 + 1)).bind fun x68 => (ixR x68 1).bind fun x77 => (ixR x68 2).bind fun x85 => lt (((((x77 + (7919 * x85)) + 1) * 48271) % 2147483647) : Int) fun x89 => guardR (CMulW x89 ((x89 / 1009) + 69621)) <| lt (((x89 * ((x89 / 1009) + 69621)) % 2147483647) : Int) fun x90 => guardR (CMulW x90 ((x90 / 2003) + 40692)) <| guardR (0 < a_base) <| .ok ((((x90 * ((x90 / 2003) + 40692)) % 2147483399) % a_base), x68))
def sp__law_digit (K : PySem.W.Frag) : Sp := fun vs H Q _ => ∃ (B : Hp) (p_state : Addr) (a_state : (List Int)) (a_base : Int), Ex B H ∧ vs = [.ref p_state, .int a_base] ∧ Mu K B H p_state (a_state.map enc) ∧ Post (l_digit a_state a_base) (fun r => RetM K p_state B H (enc r.1) (r.2.map enc) Q) (fun _ => False)
abbrev s__law_digit : Stmt := top 13
theorem sc__law_digit : FnScope ["_law_state", "_law_base", "_law_found", "_law_number_here"] ["_law_state", "_law_base"] (defScope s__law_digit) := ⟨rfl, rfl, rfl, by decide +kernel, rfl, by decide +kernel, by decide +kernel⟩
/-! ### _law_great -/
def l_great (a_state : (List Int)) : Res (Int × (List Int)) :=
  (forR (rngI 0 4) ((0, a_state) : Int × (List Int)) (fun x10 (a9 : Int × (List Int)) => (l_digit a9.2 (1000000000 + 7)).bind fun x17 => lt (((a9.1 * 10000000000) + x17.1) : Int) fun x23 => .ok (.nx (x23, x17.2)))).bind (afterR fun a24 => .ok (a24.1, a24.2))
def sp__law_great (K : PySem.W.Frag) : Sp := fun vs H Q _ => ∃ (B : Hp) (p_state : Addr) (a_state : (List Int)), Ex B H ∧ vs = [.ref p_state] ∧ Mu K B H p_state (a_state.map enc) ∧ Post (l_great a_state) (fun r => RetM K p_state B H (enc r.1) (r.2.map enc) Q) (fun _ => False)
abbrev s__law_great : Stmt := top 14
theorem sc__law_great : FnScope ["_law_state", "_law_number_here", "_law_k"] ["_law_state"] (defScope s__law_great) := ⟨rfl, rfl, rfl, by decide +kernel, rfl, by decide +kernel, by decide +kernel⟩
/-! ### _law_number -/
def l_number (a_state : (List Int)) : Res (Int × (List Int)) :=
  (l_digit a_state 8).bind fun x1 => (l_digit x1.2 3).bind fun x12 => (ixR ([1, 1, (-1)] : List Int) x12.1).bind fun x22 => (l_digit x12.2 13).bind fun x26 => (l_digit x26.2 1009).bind fun x32 => (l_digit x32.2 31).bind fun x38 => (l_great x38.2).bind fun x49 => (l_great x49.2).bind fun x55 => guardR (([x26.1, x32.1, 0, 1, (6 * x38.1), 1000000000] : List Int).length + ([x49.1, ((210 * x55.1) / 100000)] : List Int).length ≤ 1000000) <| (ixR (([x26.1, x32.1, 0, 1, (6 * x38.1), 1000000000] : List Int) ++ ([x49.1, ((210 * x55.1) / 100000)] : List Int)) x1.1).bind fun x83 => guardR (CMulW x22 x83) <| .ok ((x22 * x83), x55.2)
def sp__law_number (K : PySem.W.Frag) : Sp := fun vs H Q _ => ∃ (B : Hp) (p_state : Addr) (a_state : (List Int)), Ex B H ∧ vs = [.ref p_state] ∧ Mu K B H p_state (a_state.map enc) ∧ Post (l_number a_state) (fun r => RetM K p_state B H (enc r.1) (r.2.map enc) Q) (fun _ => False)
abbrev s__law_number : Stmt := top 15
theorem sc__law_number : FnScope ["_law_state", "_law_way", "_law_sign", "_law_some"] ["_law_state"] (defScope s__law_number) := ⟨rfl, rfl, rfl, by decide +kernel, rfl, by decide +kernel, by decide +kernel⟩
/-! ### _law_shared -/
def l_shared (a_one : Int) (a_other : Int) : Res Int :=
  lt ((absI a_one) : Int) fun x1 => lt ((absI a_other) : Int) fun x2 => (whileR (x2.natAbs + 1) ((x1, x2) : Int × Int) (fun (a12 : Int × Int) => (if (decide (0 < a12.2)) = true then guardR (0 < a12.2) <| lt ((a12.1 % a12.2) : Int) fun x16 => .ok (.nx (a12.2, x16)) else .ok (.bk (a12.1, a12.2))))).bind (afterR fun a17 => .ok a17.1)
def sp__law_shared (K : PySem.W.Frag) : Sp := fun vs H Q _ => ∃ (B : Hp) (a_one : Int) (a_other : Int), Ex B H ∧ vs = [.int a_one, .int a_other] ∧ Post (l_shared a_one a_other) (fun r => Ret K [] B H (enc r) Q) (fun _ => False)
abbrev s__law_shared : Stmt := top 16
theorem sc__law_shared : FnScope ["_law_one", "_law_other"] ["_law_one", "_law_other"] (defScope s__law_shared) := ⟨rfl, rfl, rfl, by decide +kernel, rfl, by decide +kernel, by decide +kernel⟩
/-! ### _law_whole -/
def l_whole (a_thing : D) : Res Bool :=
  (if (isA "int" a_thing) = true then .ok (!(isA "bool" a_thing)) else .ok false)
def sp__law_whole (K : PySem.W.Frag) : Sp := fun vs H Q _ => ∃ (B : Hp) (v_thing : V) (a_thing : D), Ex B H ∧ vs = [v_thing] ∧ Rep K B v_thing (enc a_thing) ∧ Post (l_whole a_thing) (fun r => Ret K [] B H (enc r) Q) (fun _ => False)
abbrev s__law_whole : Stmt := top 17
theorem sc__law_whole : FnScope ["_law_thing"] ["_law_thing"] (defScope s__law_whole) := ⟨rfl, rfl, rfl, by decide +kernel, rfl, by decide +kernel, by decide +kernel⟩
/-! ### _law_truth -/
def l_truth (a_found : Bool) (a_due : Bool) : Res Bool :=
  (ixR ([(decide (a_found = false)), (decide (a_found = true))] : List Bool) (b2z a_due)).bind fun x10 => .ok x10
def sp__law_truth (K : PySem.W.Frag) : Sp := fun vs H Q _ => ∃ (B : Hp) (a_found : Bool) (a_due : Bool), Ex B H ∧ vs = [.bl a_found, .bl a_due] ∧ Post (l_truth a_found a_due) (fun r => Ret K [] B H (enc r) Q) (fun _ => False)
abbrev s__law_truth : Stmt := top 18
theorem sc__law_truth : FnScope ["_law_found", "_law_due"] ["_law_found", "_law_due"] (defScope s__law_truth) := ⟨rfl, rfl, rfl, by decide +kernel, rfl, by decide +kernel, by decide +kernel⟩
/-! ### _law_lowest -/
def l_lowest (a_found : D) : Res Bool :=
  (if (isA "tuple" a_found) = true then (asT a_found).bind fun l1 => (if (!decide ((l1.length : Int) = 2)) = true then .ok false else (asT a_found).bind fun l8 => (ixR l8 0).bind fun x15 => (l_whole x15).bind fun x19 => (if x19 = true then (asT a_found).bind fun l25 => (ixR l25 1).bind fun x32 => (l_whole x32).bind fun x36 => (if x36 = true then (asT a_found).bind fun l42 => (ixR l42 1).bind fun x49 => (asI x49).bind fun i53 => (if (decide (0 < i53)) = true then (asT a_found).bind fun l56 => (ixR l56 0).bind fun x63 => (asT a_found).bind fun l67 => (ixR l67 1).bind fun x74 => (asI x63).bind fun i78 => (asI x74).bind fun i81 => (l_shared i78 i81).bind fun x84 => .ok (decide (x84 = 1)) else .ok false) else .ok false) else .ok false)) else .ok false)
def sp__law_lowest (K : PySem.W.Frag) : Sp := fun vs H Q _ => ∃ (B : Hp) (v_found : V) (a_found : D), Ex B H ∧ vs = [v_found] ∧ Rep K B v_found (enc a_found) ∧ Post (l_lowest a_found) (fun r => Ret K [] B H (enc r) Q) (fun _ => False)
abbrev s__law_lowest : Stmt := top 19
theorem sc__law_lowest : FnScope ["_law_found"] ["_law_found"] (defScope s__law_lowest) := ⟨rfl, rfl, rfl, by decide +kernel, rfl, by decide +kernel, by decide +kernel⟩
/-! ### _law_refused -/
def l_refused (a_first : D) (a_second : D) : Res Bool :=
  (tryR ((m_fraction a_first a_second).bind fun x7 => .ok (.nx ()) : Res (Fl (Unit) (Bool))) (fun ⟨ec, _⟩ => guardR (ec ∈ (["NoFraction"] : List Str)) <| (if true = true then .ok (.rt true) else .ok (.rt false)))).bind (afterR fun a19 => .ok false)
def sp__law_refused (K : PySem.W.Frag) : Sp := fun vs H Q _ => ∃ (B : Hp) (v_first : V) (a_first : D) (v_second : V) (a_second : D), Ex B H ∧ vs = [v_first, v_second] ∧ Rep K B v_first (enc a_first) ∧ Rep K B v_second (enc a_second) ∧ Post (l_refused a_first a_second) (fun r => Ret K [] B H (enc r) Q) (fun _ => False)
abbrev s__law_refused : Stmt := top 20
theorem sc__law_refused : FnScope ["_law_first", "_law_second", "e"] ["_law_first", "_law_second"] (defScope s__law_refused) := ⟨rfl, rfl, rfl, by decide +kernel, rfl, by decide +kernel, by decide +kernel⟩
/-! ### _law_written_otherwise -/
def l_written_otherwise (a_found : (Tp2 Int Int)) (a_state : (List Int)) : Res (D × (List Int)) :=
  (l_digit a_state 9).bind fun x9 => lt ((2 + x9.1) : Int) fun x15 => guardR (CMulW a_found.a x15) <| guardR (CMulW a_found.b x15) <| guardR ((a_found.a % 1000).natAbs.log2 < 1920) <| guardR (([(enc (⟨(a_found.a * x15), (a_found.b * x15)⟩ : (Tp2 Int Int))), (enc (⟨(-a_found.a), (-a_found.b)⟩ : (Tp2 Int Int))), (enc ([a_found.a, a_found.b] : List Int)), (enc (⟨a_found.a⟩ : (Tp1 Int))), (enc (⟨a_found.a, a_found.b, 1⟩ : (Tp3 Int Int Int))), (enc (⟨a_found.a, 0⟩ : (Tp2 Int Int)))] : List D).length + ([(enc (⟨(toString (a_found.a % 1000) : Str), a_found.b⟩ : (Tp2 Str Int))), (enc (⟨a_found.a, ()⟩ : (Tp2 Int Unit))), (enc (⟨true, 1⟩ : (Tp2 Bool Int))), (enc (⟨0, 2⟩ : (Tp2 Int Int))), (enc (a_found.a : Int)), (enc ()), (enc (⟨1, true⟩ : (Tp2 Int Bool)))] : List D).length ≤ 1000000) <| guardR ((([(enc (⟨(a_found.a * x15), (a_found.b * x15)⟩ : (Tp2 Int Int))), (enc (⟨(-a_found.a), (-a_found.b)⟩ : (Tp2 Int Int))), (enc ([a_found.a, a_found.b] : List Int)), (enc (⟨a_found.a⟩ : (Tp1 Int))), (enc (⟨a_found.a, a_found.b, 1⟩ : (Tp3 Int Int Int))), (enc (⟨a_found.a, 0⟩ : (Tp2 Int Int)))] : List D) ++ ([(enc (⟨(toString (a_found.a % 1000) : Str), a_found.b⟩ : (Tp2 Str Int))), (enc (⟨a_found.a, ()⟩ : (Tp2 Int Unit))), (enc (⟨true, 1⟩ : (Tp2 Bool Int))), (enc (⟨0, 2⟩ : (Tp2 Int Int))), (enc (a_found.a : Int)), (enc ()), (enc (⟨1, true⟩ : (Tp2 Int Bool)))] : List D)).length + (([(⟨a_found.a, (a_found.b - a_found.b)⟩ : (Tp2 Int Int))] : List (Tp2 Int Int)).map enc : List D).length ≤ 1000000) <| (l_digit x9.2 (((([(enc (⟨(a_found.a * x15), (a_found.b * x15)⟩ : (Tp2 Int Int))), (enc (⟨(-a_found.a), (-a_found.b)⟩ : (Tp2 Int Int))), (enc ([a_found.a, a_found.b] : List Int)), (enc (⟨a_found.a⟩ : (Tp1 Int))), (enc (⟨a_found.a, a_found.b, 1⟩ : (Tp3 Int Int Int))), (enc (⟨a_found.a, 0⟩ : (Tp2 Int Int)))] : List D) ++ ([(enc (⟨(toString (a_found.a % 1000) : Str), a_found.b⟩ : (Tp2 Str Int))), (enc (⟨a_found.a, ()⟩ : (Tp2 Int Unit))), (enc (⟨true, 1⟩ : (Tp2 Bool Int))), (enc (⟨0, 2⟩ : (Tp2 Int Int))), (enc (a_found.a : Int)), (enc ()), (enc (⟨1, true⟩ : (Tp2 Int Bool)))] : List D)) ++ (([(⟨a_found.a, (a_found.b - a_found.b)⟩ : (Tp2 Int Int))] : List (Tp2 Int Int)).map enc : List D)).length : Int)).bind fun x121 => (ixR ((([(enc (⟨(a_found.a * x15), (a_found.b * x15)⟩ : (Tp2 Int Int))), (enc (⟨(-a_found.a), (-a_found.b)⟩ : (Tp2 Int Int))), (enc ([a_found.a, a_found.b] : List Int)), (enc (⟨a_found.a⟩ : (Tp1 Int))), (enc (⟨a_found.a, a_found.b, 1⟩ : (Tp3 Int Int Int))), (enc (⟨a_found.a, 0⟩ : (Tp2 Int Int)))] : List D) ++ ([(enc (⟨(toString (a_found.a % 1000) : Str), a_found.b⟩ : (Tp2 Str Int))), (enc (⟨a_found.a, ()⟩ : (Tp2 Int Unit))), (enc (⟨true, 1⟩ : (Tp2 Bool Int))), (enc (⟨0, 2⟩ : (Tp2 Int Int))), (enc (a_found.a : Int)), (enc ()), (enc (⟨1, true⟩ : (Tp2 Int Bool)))] : List D)) ++ (([(⟨a_found.a, (a_found.b - a_found.b)⟩ : (Tp2 Int Int))] : List (Tp2 Int Int)).map enc : List D)) x121.1).bind fun x131 => .ok (x131, x121.2)
def sp__law_written_otherwise (K : PySem.W.Frag) : Sp := fun vs H Q _ => ∃ (B : Hp) (v_found : V) (a_found : (Tp2 Int Int)) (p_state : Addr) (a_state : (List Int)), Ex B H ∧ vs = [v_found, .ref p_state] ∧ Rep K B v_found (enc a_found) ∧ Mu K B H p_state (a_state.map enc) ∧ Post (l_written_otherwise a_found a_state) (fun r => RetM K p_state B H (enc r.1) (r.2.map enc) Q) (fun _ => False)
abbrev s__law_written_otherwise : Stmt := top 21
theorem sc__law_written_otherwise : FnScope ["_law_found", "_law_state", "_law_first", "_law_second", "_law_many", "_law_some"] ["_law_found", "_law_state"] (defScope s__law_written_otherwise) := ⟨rfl, rfl, rfl, by decide +kernel, rfl, by decide +kernel, by decide +kernel⟩
/-! ### _law_right -/
def l_right (a_found : (Tp2 Int Int)) (a_first : Int) (a_second : Int) : Res Bool :=
  (l_lowest (enc a_found)).bind fun x1 => (if x1 = true then guardR (CMulW a_found.a a_second) <| guardR (CMulW a_first a_found.b) <| (if (!decide ((a_found.a * a_second) = (a_first * a_found.b))) = true then .ok false else (m_is_fraction (enc a_found)).bind fun x19 => (if (!decide (x19 = true)) = true then .ok false else (m_is_moment (enc a_found)).bind fun x25 => (l_truth x25 (decide (0 ≤ a_found.a))).bind fun x37 => (if x37 = true then (m_floor a_found).bind fun x43 => (l_whole (enc (x43 : Int))).bind fun x49 => (if x49 = true then guardR (CMulW x43 a_found.b) <| (if (decide ((x43 * a_found.b) ≤ a_found.a)) = true then guardR (CMulW (x43 + 1) a_found.b) <| .ok (decide (a_found.a < ((x43 + 1) * a_found.b))) else .ok false) else .ok false) else .ok false))) else .ok false)
def sp__law_right (K : PySem.W.Frag) : Sp := fun vs H Q _ => ∃ (B : Hp) (v_found : V) (a_found : (Tp2 Int Int)) (a_first : Int) (a_second : Int), Ex B H ∧ vs = [v_found, .int a_first, .int a_second] ∧ Rep K B v_found (enc a_found) ∧ Post (l_right a_found a_first a_second) (fun r => Ret K [] B H (enc r) Q) (fun _ => False)
abbrev s__law_right : Stmt := top 22
theorem sc__law_right : FnScope ["_law_found", "_law_first", "_law_second", "_law_under"] ["_law_found", "_law_first", "_law_second"] (defScope s__law_right) := ⟨rfl, rfl, rfl, by decide +kernel, rfl, by decide +kernel, by decide +kernel⟩
/-! ### law -/
def m_law (a_script : (List Int)) : Res Bool :=
  (l_cell_at a_script 0).bind fun x1 => (l_number ([x1] : List Int)).bind fun x13 => (l_cell_at a_script 1).bind fun x19 => (l_number ([x19] : List Int)).bind fun x32 => ((if (decide (x32.1 = 0)) = true then (l_refused (enc (x13.1 : Int)) (enc (0 : Int))).bind fun x42 => (if x42 = true then (l_digit x13.2 50).bind fun x48 => lt ((1 + x48.1) : Int) fun x54 => .ok (.nx (x54, x48.2)) else .ok (.rt false)) else .ok (.nx (x32.1, x13.2))) : Res (Fl (Int × (List Int)) _)).bind (afterR fun a55 => ((m_fraction (enc (x13.1 : Int)) (enc (a55.1 : Int))).noErr).bind fun x59 => (l_right x59 x13.1 a55.1).bind fun x65 => (if x65 = true then ((m_fraction (enc (x13.1 : Int)) (enc (a55.1 : Int))).noErr).bind fun x71 => guardR (okEq (enc x71) (enc x59)) <| (if (!(eqD (enc x71) (enc x59))) = true then .ok false else ((m_fraction (enc (x13.1 : Int)) (enc ((1 : Int) : Int))).noErr).bind fun x77 => (l_right x77 x13.1 1).bind fun x83 => (if x83 = true then ((m_fraction (enc (x13.1 : Int)) (enc ((1 : Int) : Int))).noErr).bind fun x89 => (if (!decide (x89.b = 1)) = true then .ok false else (l_cell_at a_script 2).bind fun x101 => (l_number ([x101] : List Int)).bind fun x114 => (l_digit a55.2 1000000).bind fun x120 => ((m_fraction (enc (x114.1 : Int)) (enc ((1 + x120.1) : Int))).noErr).bind fun x126 => (forR (([(⟨x59, x126⟩ : (Tp2 (Tp2 Int Int) (Tp2 Int Int))), (⟨x126, x59⟩ : (Tp2 (Tp2 Int Int) (Tp2 Int Int))), (⟨x59, x59⟩ : (Tp2 (Tp2 Int Int) (Tp2 Int Int)))] : List (Tp2 (Tp2 Int Int) (Tp2 Int Int)))) (() : Unit) (fun x164 (a163 : Unit) => (m_less x164.a x164.b).bind fun x180 => guardR (CMulW x164.a.a x164.b.b) <| guardR (CMulW x164.b.a x164.a.b) <| (l_truth x180 (decide ((x164.a.a * x164.b.b) < (x164.b.a * x164.a.b)))).bind fun x210 => (if x210 = true then .ok (.nx ()) else .ok (.rt false)))).bind (afterR fun a216 => (l_written_otherwise x59 x120.2).bind fun x222 => (m_is_fraction x222.1).bind fun x228 => (if (!decide (x228 = false)) = true then .ok false else (m_is_moment x222.1).bind fun x234 => (if (!decide (x234 = false)) = true then .ok false else (l_digit x222.2 8).bind fun x260 => (ixR ([(enc ()), (enc true), (enc false), (enc ("1" : Str)), (enc ([1] : List Int)), (enc (⟨1, 1⟩ : (Tp2 Int Int))), (.dic [] : D), (enc ("" : Str))] : List D) x260.1).bind fun x270 => (l_refused x270 (enc (a55.1 : Int))).bind fun x274 => (if x274 = true then (l_refused (enc (x13.1 : Int)) x270).bind fun x280 => .ok x280 else .ok false))))) else .ok false)) else .ok false))
def sp_law (K : PySem.W.Frag) : Sp := fun vs H Q _ => ∃ (B : Hp) (v_script : V) (a_script : (List Int)), Ex B H ∧ vs = [v_script] ∧ Bor K B H [] v_script (a_script.map enc) ∧ Post (m_law a_script) (fun r => Ret K [] B H (enc r) Q) (fun _ => False)
abbrev s_law : Stmt := top 23
theorem sc_law : FnScope ["_law_script", "_law_state", "_law_first", "_law_second", "_law_found", "_law_other", "_law_one", "_law_two", "_law_odd", "_law_thing"] ["_law_script"] (defScope s_law) := ⟨rfl, rfl, rfl, by decide +kernel, rfl, by decide +kernel, by decide +kernel⟩
section
variable {Pr : Program} {wo : World} {K : PySem.W.Frag} {mg : Str → Option Value} {base : Heap}
theorem ok_divisor {f : Addr} {fd : FuncData}  (F : Fun K "divisor" "divisor" s_divisor f fd) (bI_abs : mg "abs" = none) : FnOk Pr wo K mg base CX0 1 f fd ["one", "other"] (sp_divisor K) := by
  refine F.ok sc_divisor (fun vs H Q E h => ?_) (fun cdv A outer s H0 vs Q E hr h => ?_)
  · obtain ⟨_, _, _, _, rfl, _⟩ := h; rfl
  · obtain ⟨B0, a_one, a_other, w, rfl, P⟩ := h
    have w0 := w
    have hu := hu_of hr
    have hu64 := hu64_of hr
    refine ⟨_, (pss_cons (ps_set (i := 0) sc_divisor.nd rfl (by first | exact Or.inl rfl | exact Or.inr rfl) (pe_callB cr_abs (by rfl) bI_abs PyProof.Rows.boot_abs (pa_cons (pv 0) pa_nil)))
      (pss_cons (ps_set (i := 1) sc_divisor.nd rfl (by first | exact Or.inl rfl | exact Or.inr rfl) (pe_callB cr_abs (by rfl) bI_abs PyProof.Rows.boot_abs (pa_cons (pv 1) pa_nil)))
      (pss_cons (ps_while PassesOwn.never (pt_cmpR op_gt (pv 1) pe_int (nomark _)) (pss_one (ps_par rfl sc_divisor.nd (i := 0) (j := 1) rfl rfl (by decide) rfl rfl (pa_cons (pv 1) (pa_cons (pe_op op_mod (pv 0) (pv 1)) pa_nil)) rfl)))
      (pss_one (ps_ret (pv 0)))))), ?_⟩
    unfold m_divisor at P
    have st := Stp.refl (W := []) w
    refine h_set ?_
    refine h_cb ?_
    refine h_cons ?_
    refine h_var rfl ?_
    refine h_nil ?_
    refine h_abs ?_
    replace P := P.lt
    generalize hx : (absI a_one) = x1 at P ⊢
    refine h_set ?_
    refine h_cb ?_
    refine h_cons ?_
    refine h_var rfl ?_
    refine h_nil ?_
    refine h_abs ?_
    replace P := P.lt
    generalize hx : (absI a_other) = x2 at P ⊢
    refine h_seq ?_
    have wj4 := w
    have sj3 := Stp.refl (W := []) w
    refine h_while P (fun (a : Int × Int) σ' H' => ∃ (B' : Hp), Stp [] B0 H0 B' H' ∧ σ' = [some (.int a.1), some (.int a.2)]) ⟨_, sj3, rfl⟩ ?_ ?_
    · rintro N5 C6 T7 a12 _ H14 ⟨B13, s15, rfl⟩ kn8 kk9 kr10 kb11 P
      replace st := st.go s15 go0
      replace w := s15.ok
      have sj3 := s15
      refine h_test ?_
      refine h_op ?_
      refine h_var rfl ?_
      refine h_c ?_
      refine h_I0 ?_
      refine h_bl ?_
      refine h_ite (fun c1 => ?_) (fun c1 => ?_)
      · replace P := P.iteT c1
        refine ⟨N5, kn8, ?_⟩
        refine h_par ?_
        refine h_cons ?_
        refine h_var rfl ?_
        refine h_cons ?_
        refine h_op ?_
        refine h_var rfl ?_
        refine h_var rfl ?_
        obtain ⟨gd, P⟩ := P.guard
        refine h_I gd ?_
        refine h_nil ?_
        refine h_two ?_
        replace P := P.lt
        generalize hx : (a12.1 % a12.2) = x16 at P ⊢
        refine h_nx ?_
        exact kk9 (a12.2, x16) _ _ ⟨_, sj3, rfl⟩ P.ok
      · replace P := P.iteF c1
        exact kb11 (a12.1, a12.2) _ _ ⟨_, sj3, rfl⟩ P.ok
    · rintro a17 _ H19 ⟨B18, s20, rfl⟩ P
      replace st := st.go s20 go0
      replace w := s20.ok
      refine h_nx ?_
      refine h_ret ?_
      refine h_var rfl ?_
      exact P.ok _ _ _ st (Rep.int _)
theorem ok_is_number {f : Addr} {fd : FuncData}  (F : Fun K "is_number" "is_number" s_is_number f fd) (bI_isinstance : mg "isinstance" = none) (bI_int : mg "int" = none) (bI_bool : mg "bool" = none) : FnOk Pr wo K mg base CX0 1 f fd ["thing"] (sp_is_number K) := by
  refine F.ok sc_is_number (fun vs H Q E h => ?_) (fun cdv A outer s H0 vs Q E hr h => ?_)
  · obtain ⟨_, _, _, _, rfl, _⟩ := h; rfl
  · obtain ⟨B0, v_thing, a_thing, w, rfl, r_thing, P⟩ := h
    have w0 := w
    have hu := hu_of hr
    have hu64 := hu64_of hr
    refine ⟨_, (pss_one (ps_ret (pe_and (pe_callB (r := rIsi K) call_isi (by rfl) bI_isinstance PyProof.Rows.boot_isinstance (pa_cons (pv 0) (pa_cons (pe_bltn (v := .ty "int") (by rfl) bI_int Y.boot_int rfl) pa_nil))) (pe_one (pe_not (pe_callB (r := rIsi K) call_isi (by rfl) bI_isinstance PyProof.Rows.boot_isinstance (pa_cons (pv 0) (pa_cons (pe_bltn (v := .ty "bool") (by rfl) bI_bool Y.boot_bool rfl) pa_nil)))))))), ?_⟩
    unfold m_is_number at P
    have st := Stp.refl (W := []) w
    refine h_ret ?_
    refine h_and ?_
    refine h_cb ?_
    refine h_cons ?_
    refine h_var rfl ?_
    refine h_cons ?_
    refine h_c ?_
    refine h_nil ?_
    refine isi (t := "int") w (r_thing.mono st.ex) ?_
    refine h_bl ?_
    refine h_ite (fun c1 => ?_) (fun c1 => ?_)
    · replace P := P.iteT c1
      refine h_not ?_
      refine h_cb ?_
      refine h_cons ?_
      refine h_var rfl ?_
      refine h_cons ?_
      refine h_c ?_
      refine h_nil ?_
      refine isi (t := "bool") w (r_thing.mono st.ex) ?_
      refine h_bl ?_
      exact P.ok _ _ _ st (Rep.bl _)
    · replace P := P.iteF c1
      exact P.ok _ _ _ st (Rep.bl _)
theorem ok_fraction {f : Addr} {fd : FuncData} {tk_fraction_bottom : Tok} (F : FunV K "fraction" "fraction" s_fraction [.int 1 tk_fraction_bottom] f fd) {C_NoFraction : Addr} (T_NoFraction : ExcR K mg "NoFraction" C_NoFraction) {f_divisor : Addr} {d_divisor : FuncData} (g_divisor : mg "divisor" = some (.ref f_divisor)) (k_divisor : PySem.W.keepIn K (.ref f_divisor) = true) (b_divisor : L2.Binds K d_divisor ["one", "other"] []) (G_divisor : FnOk Pr wo K mg base CX0 1 f_divisor d_divisor ["one", "other"] (sp_divisor K)) {f_is_number : Addr} {d_is_number : FuncData} (g_is_number : mg "is_number" = some (.ref f_is_number)) (k_is_number : PySem.W.keepIn K (.ref f_is_number) = true) (b_is_number : L2.Binds K d_is_number ["thing"] []) (G_is_number : FnOk Pr wo K mg base CX0 1 f_is_number d_is_number ["thing"] (sp_is_number K)) : FnOk Pr wo K mg base (L2.CX Pr wo) 2 f fd ["top", "bottom"] (sp_fraction K mg) := by
  refine F.okX sc_fraction (fun vs H Q E h => ?_) (fun cdv A outer s H0 vs Q E hr h => ?_)
  · obtain ⟨_, _, _, _, _, _, rfl, _⟩ := h; rfl
  · obtain ⟨B0, v_top, a_top, v_bottom, a_bottom, w, rfl, r_top, r_bottom, P⟩ := h
    have w0 := w
    have hu := hu_of hr
    have hu64 := hu64_of hr
    have hr1 : Room 1 _ := hr.mono (by decide)
    refine ⟨_, (pss_cons (ps_if (PW.pt (pw_or (pt_not (pt_val (pe_call G_is_number hr1 rfl g_is_number k_is_number b_is_number .nil pass0 (pa_cons (pv 0) pa_nil)))) (pw_or (pt_not (pt_val (pe_call G_is_number hr1 rfl g_is_number k_is_number b_is_number .nil pass0 (pa_cons (pv 1) pa_nil)))) (pw_or1 (pt_cmpR (r := rEqD K) (op_eqD hu64) (pv 1) pe_int (nomark _)))))) (pss_one (ps_raise rfl (takes_of rfl rfl rfl rfl) (pmk_own PySem.F.excBase_ValueError T_NoFraction.ex T_NoFraction.g T_NoFraction.kp (raises_own T_NoFraction.ec.hs T_NoFraction.ty) rfl))) pss_nil)
      (pss_cons (ps_set (i := 2) sc_fraction.nd rfl (by first | exact Or.inl rfl | exact Or.inr rfl) (pe_call G_divisor hr1 rfl g_divisor k_divisor b_divisor .nil pass0 (pa_cons (pv 0) (pa_cons (pv 1) pa_nil))))
      (pss_cons (ps_if (pt_cmpR op_lt (pv 1) pe_int (nomark _)) (pss_one (ps_set (i := 2) sc_fraction.nd rfl (by first | exact Or.inl rfl | exact Or.inr rfl) (pe_un un_neg (pv 2)))) pss_nil)
      (pss_one (ps_ret (pe_tup (pa_cons (pe_op op_fdivZ (pv 0) (pv 2)) (pa_cons (pe_op op_fdivZ (pv 1) (pv 2)) pa_nil)))))))), ?_⟩
    unfold m_fraction at P
    have st := Stp.refl (W := []) w
    refine h_seq <| h_if ?_
    refine h_tor ?_
    refine h_tnot ?_
    refine h_tB ?_
    refine h_call ?_
    refine h_cons ?_
    refine h_var rfl ?_
    refine h_nil ?_
    refine ⟨B0, v_top, a_top, w, rfl, (r_top.mono st.ex), (P.bind.noErr).mono (fun x1 P => ?_) (fun _ z => z.elim)⟩
    refine fun v5 B2 H3 s4 r6 => ?_
    replace st := st.go s4 go0
    replace w := s4.ok
    cases r6
    refine h_bl ?_
    refine h_iteN (fun c1 => ?_) (fun c1 => ?_)
    · replace P := P.iteF c1
      refine h_iteT ?_
      exact P.err _ _ _ T_NoFraction.g st
    · replace P := P.iteT c1
      refine h_tor ?_
      refine h_tnot ?_
      refine h_tB ?_
      refine h_call ?_
      refine h_cons ?_
      refine h_var rfl ?_
      refine h_nil ?_
      refine ⟨B2, v_bottom, a_bottom, w, rfl, (r_bottom.mono st.ex), (P.bind.noErr).mono (fun x7 P => ?_) (fun _ z => z.elim)⟩
      refine fun v11 B8 H9 s10 r12 => ?_
      replace st := st.go s10 go0
      replace w := s10.ok
      cases r12
      refine h_bl ?_
      refine h_iteN (fun c1 => ?_) (fun c1 => ?_)
      · replace P := P.iteF c1
        refine h_iteT ?_
        exact P.err _ _ _ T_NoFraction.g st
      · replace P := P.iteT c1
        refine h_test ?_
        refine h_op ?_
        refine h_var rfl ?_
        refine h_c ?_
        obtain ⟨gd, P⟩ := P.guard
        refine h_eqD (d := a_bottom) (e := (enc (0 : Int))) w (r_bottom.mono st.ex) (Rep.int _) gd ?_
        refine h_bl ?_
        refine h_ite (fun c1 => ?_) (fun c1 => ?_)
        · replace P := P.iteT c1
          exact P.err _ _ _ T_NoFraction.g st
        · replace P := P.iteF c1
          refine h_next ?_
          refine h_nx ?_
          refine h_set ?_
          refine h_call ?_
          refine h_cons ?_
          refine h_var rfl ?_
          refine h_cons ?_
          refine h_var rfl ?_
          refine h_nil ?_
          obtain ⟨i13, hi14, P⟩ := P.asI
          have rc15 := (r_top.mono st.ex)
          rw [hi14] at rc15
          cases rc15
          obtain ⟨i16, hi17, P⟩ := P.asI
          have rc18 := (r_bottom.mono st.ex)
          rw [hi17] at rc18
          cases rc18
          refine ⟨B8, i13, i16, w, rfl, (P.bind.noErr).mono (fun x19 P => ?_) (fun _ z => z.elim)⟩
          refine fun v23 B20 H21 s22 r24 => ?_
          replace st := st.go s22 go0
          replace w := s22.ok
          cases r24
          have wj26 := w
          have sj25 := Stp.refl (W := []) w
          refine h_joinS P (fun (a : Int) σ' H' => ∃ (B' : Hp), Stp [] B20 H21 B' H' ∧ σ' = [some (.int i13), some (.int i16), some (.int a)]) (fun N kk27 P => h_if ?_) ?_
          · skip
            refine h_test ?_
            refine h_op ?_
            refine h_var rfl ?_
            refine h_c ?_
            refine h_I0 ?_
            refine h_bl ?_
            refine h_ite (fun c1 => ?_) (fun c1 => ?_)
            · replace P := P.iteT c1
              refine h_set1 ?_
              refine h_un ?_
              refine h_var rfl ?_
              refine h_U ?_
              replace P := P.lt
              generalize hx : (-x19) = x28 at P ⊢
              refine h_nx ?_
              exact kk27 x28 _ _ ⟨_, sj25, rfl⟩ P.ok
            · replace P := P.iteF c1
              refine h_next ?_
              refine h_nx ?_
              exact kk27 x19 _ _ ⟨_, sj25, rfl⟩ P.ok
          rintro a29 _ H31 ⟨B30, s32, rfl⟩ P
          replace st := st.go s32 go0
          replace w := s32.ok
          refine h_ret ?_
          refine h_tup ?_
          refine h_cons ?_
          refine h_op ?_
          refine h_var rfl ?_
          refine h_var rfl ?_
          obtain ⟨gd, P⟩ := P.guard
          refine h_I gd ?_
          refine h_cons ?_
          refine h_op ?_
          refine h_var rfl ?_
          refine h_var rfl ?_
          obtain ⟨gd, P⟩ := P.guard
          refine h_I gd ?_
          refine h_nil ?_
          refine h_newT w (K := K) (.cons (Rep.int _) (.cons (Rep.int _) .nil)) (fun p33 B34 H35 s36 r37 => ?_) (by show 2 ≤ sizeLine; decide)
          replace st := st.go s36 go0
          replace w := s36.ok
          replace r37 : Rep K B34 (.ref p33) (enc (⟨(Int.fdiv i13 a29), (Int.fdiv i16 a29)⟩ : (Tp2 Int Int))) := r37
          exact P.ok _ _ _ st r37
theorem ok_is_fraction {f : Addr} {fd : FuncData}  (F : Fun K "is_fraction" "is_fraction" s_is_fraction f fd) {f_divisor : Addr} {d_divisor : FuncData} (g_divisor : mg "divisor" = some (.ref f_divisor)) (k_divisor : PySem.W.keepIn K (.ref f_divisor) = true) (b_divisor : L2.Binds K d_divisor ["one", "other"] []) (G_divisor : FnOk Pr wo K mg base CX0 1 f_divisor d_divisor ["one", "other"] (sp_divisor K)) {f_is_number : Addr} {d_is_number : FuncData} (g_is_number : mg "is_number" = some (.ref f_is_number)) (k_is_number : PySem.W.keepIn K (.ref f_is_number) = true) (b_is_number : L2.Binds K d_is_number ["thing"] []) (G_is_number : FnOk Pr wo K mg base CX0 1 f_is_number d_is_number ["thing"] (sp_is_number K)) (bI_isinstance : mg "isinstance" = none) (bI_tuple : mg "tuple" = none) (bI_len : mg "len" = none) : FnOk Pr wo K mg base CX0 2 f fd ["thing"] (sp_is_fraction K) := by
  refine F.ok sc_is_fraction (fun vs H Q E h => ?_) (fun cdv A outer s H0 vs Q E hr h => ?_)
  · obtain ⟨_, _, _, _, rfl, _⟩ := h; rfl
  · obtain ⟨B0, v_thing, a_thing, w, rfl, r_thing, P⟩ := h
    have w0 := w
    have hu := hu_of hr
    have hu64 := hu64_of hr
    have hr1 : Room 1 _ := hr.mono (by decide)
    refine ⟨_, (pss_cons (ps_if (PW.pt (pw_or (pt_not (pt_val (pe_callB (r := rIsi K) call_isi (by rfl) bI_isinstance PyProof.Rows.boot_isinstance (pa_cons (pv 0) (pa_cons (pe_bltn (v := .ty "tuple") (by rfl) bI_tuple Y.boot_tuple rfl) pa_nil))))) (pw_or1 (pt_cmpR op_ne (pe_callB (r := rLenY K) cr_len (by rfl) bI_len PySem.boot_len (pa_cons (pv 0) pa_nil)) pe_int (nomark _))))) (pss_one (ps_ret pe_bl)) pss_nil)
      (pss_cons (ps_asg (pv 0) (pg_tup rfl (pgs_cons (pg_name (i := 1) sc_is_fraction.nd rfl (by first | exact Or.inl rfl | exact Or.inr rfl)) (pgs_cons (pg_name (i := 2) sc_is_fraction.nd rfl (by first | exact Or.inl rfl | exact Or.inr rfl)) pgs_nil))))
      (pss_cons (ps_if (PW.pt (pw_or (pt_not (pt_val (pe_call G_is_number hr1 rfl g_is_number k_is_number b_is_number .nil pass0 (pa_cons (pv 1) pa_nil)))) (pw_or (pt_not (pt_val (pe_call G_is_number hr1 rfl g_is_number k_is_number b_is_number .nil pass0 (pa_cons (pv 2) pa_nil)))) (pw_or1 (pt_cmpR op_lt (pv 2) pe_int (nomark _)))))) (pss_one (ps_ret pe_bl)) pss_nil)
      (pss_one (ps_ret (pe_cmpR op_eq (pe_call G_divisor hr1 rfl g_divisor k_divisor b_divisor .nil pass0 (pa_cons (pv 1) (pa_cons (pv 2) pa_nil))) pe_int (nomark _))))))), ?_⟩
    unfold m_is_fraction at P
    have st := Stp.refl (W := []) w
    refine h_seq <| h_if ?_
    refine h_tor ?_
    refine h_tnot ?_
    refine h_tB ?_
    refine h_cb ?_
    refine h_cons ?_
    refine h_var rfl ?_
    refine h_cons ?_
    refine h_c ?_
    refine h_nil ?_
    refine isi (t := "tuple") w (r_thing.mono st.ex) ?_
    refine h_bl ?_
    refine h_iteN (fun c1 => ?_) (fun c1 => ?_)
    · replace P := P.iteF c1
      refine h_iteT ?_
      refine h_ret ?_
      refine h_c ?_
      exact P.ok _ _ _ st (Rep.bl _)
    · replace P := P.iteT c1
      refine h_test ?_
      refine h_op ?_
      refine h_cb ?_
      refine h_cons ?_
      refine h_var rfl ?_
      refine h_nil ?_
      obtain ⟨l1, hl2, P⟩ := P.asT
      have rc3 := (r_thing.mono st.ex)
      rw [hl2] at rc3
      obtain ⟨p4, xs5, rfl, hs6, hr7⟩ := Rep.st w rc3
      refine h_lenTl hs6 hr7 ?_
      refine h_c ?_
      refine h_neI ?_
      refine h_bl ?_
      refine h_ite (fun c1 => ?_) (fun c1 => ?_)
      · replace P := P.iteT c1
        refine h_ret ?_
        refine h_c ?_
        exact P.ok _ _ _ st (Rep.bl _)
      · replace P := P.iteF c1
        refine h_next ?_
        refine h_nx ?_
        refine h_seq ?_
        refine h_asg ?_
        refine h_var rfl ?_
        obtain ⟨l8, hl9, P⟩ := P.asT
        have rc10 := (r_thing.mono st.ex)
        rw [hl9] at rc10
        obtain ⟨p11, xs12, hv, hs13, hr14⟩ := Rep.st w rc10
        cases hv
        obtain ⟨gd, P⟩ := P.guard
        refine h_tupG hs13 (by rw [hr14.length, List.length_map]; exact gd) ?_
        obtain ⟨x16, hx17, P⟩ := P.ix
        obtain ⟨u18, huu18, r19⟩ := RepL.atE hr14 hx17
        obtain ⟨x20, hx21, P⟩ := P.ix
        obtain ⟨u22, huu22, r23⟩ := RepL.atE hr14 hx21
        obtain rfl : xs12 = [u18, u22] := tup2 (by rw [hr14.length, List.length_map]; exact gd) huu18 huu22
        refine h_gcons ?_
        refine h_gname ?_
        refine h_gcons ?_
        refine h_gname ?_
        refine h_gnil ?_
        refine h_nx ?_
        refine h_seq <| h_if ?_
        refine h_tor ?_
        refine h_tnot ?_
        refine h_tB ?_
        refine h_call ?_
        refine h_cons ?_
        refine h_var rfl ?_
        refine h_nil ?_
        refine ⟨B0, u18, x16, w, rfl, r19, (P.bind).mono (fun x24 P => ?_) (fun _ z => z)⟩
        refine fun v28 B25 H26 s27 r29 => ?_
        replace r19 := r19.mono s27.ex
        replace r23 := r23.mono s27.ex
        replace st := st.go s27 go0
        replace w := s27.ok
        cases r29
        refine h_bl ?_
        refine h_iteN (fun c1 => ?_) (fun c1 => ?_)
        · replace P := P.iteF c1
          refine h_iteT ?_
          refine h_ret ?_
          refine h_c ?_
          exact P.ok _ _ _ st (Rep.bl _)
        · replace P := P.iteT c1
          refine h_tor ?_
          refine h_tnot ?_
          refine h_tB ?_
          refine h_call ?_
          refine h_cons ?_
          refine h_var rfl ?_
          refine h_nil ?_
          refine ⟨B25, u22, x20, w, rfl, r23, (P.bind).mono (fun x30 P => ?_) (fun _ z => z)⟩
          refine fun v34 B31 H32 s33 r35 => ?_
          replace r19 := r19.mono s33.ex
          replace r23 := r23.mono s33.ex
          replace st := st.go s33 go0
          replace w := s33.ok
          cases r35
          refine h_bl ?_
          refine h_iteN (fun c1 => ?_) (fun c1 => ?_)
          · replace P := P.iteF c1
            refine h_iteT ?_
            refine h_ret ?_
            refine h_c ?_
            exact P.ok _ _ _ st (Rep.bl _)
          · replace P := P.iteT c1
            refine h_test ?_
            refine h_op ?_
            refine h_var rfl ?_
            refine h_c ?_
            obtain ⟨i36, hi37, P⟩ := P.asI
            have rc38 := r23
            rw [hi37] at rc38
            cases rc38
            refine h_I0 ?_
            refine h_bl ?_
            refine h_ite (fun c1 => ?_) (fun c1 => ?_)
            · replace P := P.iteT c1
              refine h_ret ?_
              refine h_c ?_
              exact P.ok _ _ _ st (Rep.bl _)
            · replace P := P.iteF c1
              refine h_next ?_
              refine h_nx ?_
              refine h_ret ?_
              refine h_op ?_
              refine h_call ?_
              refine h_cons ?_
              refine h_var rfl ?_
              refine h_cons ?_
              refine h_var rfl ?_
              refine h_nil ?_
              obtain ⟨i39, hi40, P⟩ := P.asI
              have rc41 := r19
              rw [hi40] at rc41
              cases rc41
              refine ⟨B31, i39, i36, w, rfl, (P.bind).mono (fun x42 P => ?_) (fun _ z => z)⟩
              refine fun v46 B43 H44 s45 r47 => ?_
              replace r19 := r19.mono s45.ex
              replace r23 := r23.mono s45.ex
              replace st := st.go s45 go0
              replace w := s45.ok
              cases r47
              refine h_c ?_
              refine h_eqI ?_
              exact P.ok _ _ _ st (Rep.bl _)
theorem ok_is_moment {f : Addr} {fd : FuncData}  (F : Fun K "is_moment" "is_moment" s_is_moment f fd) {f_is_fraction : Addr} {d_is_fraction : FuncData} (g_is_fraction : mg "is_fraction" = some (.ref f_is_fraction)) (k_is_fraction : PySem.W.keepIn K (.ref f_is_fraction) = true) (b_is_fraction : L2.Binds K d_is_fraction ["thing"] []) (G_is_fraction : FnOk Pr wo K mg base CX0 2 f_is_fraction d_is_fraction ["thing"] (sp_is_fraction K)) : FnOk Pr wo K mg base CX0 3 f fd ["thing"] (sp_is_moment K) := by
  refine F.ok sc_is_moment (fun vs H Q E h => ?_) (fun cdv A outer s H0 vs Q E hr h => ?_)
  · obtain ⟨_, _, _, _, rfl, _⟩ := h; rfl
  · obtain ⟨B0, v_thing, a_thing, w, rfl, r_thing, P⟩ := h
    have w0 := w
    have hu := hu_of hr
    have hu64 := hu64_of hr
    have hr2 : Room 2 _ := hr.mono (by decide)
    refine ⟨_, (pss_one (ps_ret (pe_and (pe_call G_is_fraction hr2 rfl g_is_fraction k_is_fraction b_is_fraction .nil pass0 (pa_cons (pv 0) pa_nil)) (pe_one (pe_cmpR op_ge (pe_ix (r := rIxT K) ix_tup (pv 0) pe_int (fun _ _ => rfl)) pe_int (nomark _)))))), ?_⟩
    unfold m_is_moment at P
    have st := Stp.refl (W := []) w
    refine h_ret ?_
    refine h_and ?_
    refine h_call ?_
    refine h_cons ?_
    refine h_var rfl ?_
    refine h_nil ?_
    refine ⟨B0, v_thing, a_thing, w, rfl, (r_thing.mono st.ex), (P.bind).mono (fun x1 P => ?_) (fun _ z => z)⟩
    refine fun v5 B2 H3 s4 r6 => ?_
    replace st := st.go s4 go0
    replace w := s4.ok
    cases r6
    refine h_bl ?_
    refine h_ite (fun c1 => ?_) (fun c1 => ?_)
    · replace P := P.iteT c1
      refine h_op ?_
      refine h_op ?_
      refine h_var rfl ?_
      refine h_c ?_
      obtain ⟨l7, hl8, P⟩ := P.asT
      have rc9 := (r_thing.mono st.ex)
      rw [hl8] at rc9
      obtain ⟨p10, xs11, rfl, hs12, hr13⟩ := Rep.st w rc9
      obtain ⟨x14, hx15, P⟩ := P.ix
      obtain ⟨u16, hu, r17⟩ := RepL.atE hr13 hx15
      refine h_ixT hs12 hu ?_
      refine h_c ?_
      obtain ⟨i18, hi19, P⟩ := P.asI
      have rc20 := r17
      rw [hi19] at rc20
      cases rc20
      refine h_I0 ?_
      exact P.ok _ _ _ st (Rep.bl _)
    · replace P := P.iteF c1
      exact P.ok _ _ _ st (Rep.bl _)
theorem ok_less {f : Addr} {fd : FuncData}  (F : Fun K "less" "less" s_less f fd)  : FnOk Pr wo K mg base CX0 1 f fd ["one", "other"] (sp_less K) := by
  refine F.ok sc_less (fun vs H Q E h => ?_) (fun cdv A outer s H0 vs Q E hr h => ?_)
  · obtain ⟨_, _, _, _, _, _, rfl, _⟩ := h; rfl
  · obtain ⟨B0, v_one, a_one, v_other, a_other, w, rfl, r_one, r_other, P⟩ := h
    have w0 := w
    have hu := hu_of hr
    have hu64 := hu64_of hr
    refine ⟨_, (pss_one (ps_ret (pe_cmpR op_lt (pe_op op_mulW (pe_ix (r := rIxT K) ix_tup (pv 0) pe_int (fun _ _ => rfl)) (pe_ix (r := rIxT K) ix_tup (pv 1) pe_int (fun _ _ => rfl))) (pe_op op_mulW (pe_ix (r := rIxT K) ix_tup (pv 1) pe_int (fun _ _ => rfl)) (pe_ix (r := rIxT K) ix_tup (pv 0) pe_int (fun _ _ => rfl))) (nomark _)))), ?_⟩
    unfold m_less at P
    have st := Stp.refl (W := []) w
    refine h_ret ?_
    refine h_op ?_
    refine h_op ?_
    refine h_op ?_
    refine h_var rfl ?_
    refine h_c ?_
    obtain ⟨p1, xs2, rfl, hs3, hr4⟩ := Rep.st w (r_one.mono st.ex)
    obtain ⟨u5, hu, r6⟩ := RepL.at hr4 (i := 0) rfl
    refine h_ixT hs3 hu ?_
    cases r6
    refine h_op ?_
    refine h_var rfl ?_
    refine h_c ?_
    obtain ⟨p7, xs8, rfl, hs9, hr10⟩ := Rep.st w (r_other.mono st.ex)
    obtain ⟨u11, hu, r12⟩ := RepL.at hr10 (i := 1) rfl
    refine h_ixT hs9 hu ?_
    cases r12
    obtain ⟨gd, P⟩ := P.guard
    refine h_I gd ?_
    refine h_op ?_
    refine h_op ?_
    refine h_var rfl ?_
    refine h_c ?_
    obtain ⟨p13, xs14, hv, hs15, hr16⟩ := Rep.st w (r_other.mono st.ex)
    cases hv
    obtain ⟨u17, hu, r18⟩ := RepL.at hr16 (i := 0) rfl
    refine h_ixT hs15 hu ?_
    cases r18
    refine h_op ?_
    refine h_var rfl ?_
    refine h_c ?_
    obtain ⟨p19, xs20, hv, hs21, hr22⟩ := Rep.st w (r_one.mono st.ex)
    cases hv
    obtain ⟨u23, hu, r24⟩ := RepL.at hr22 (i := 1) rfl
    refine h_ixT hs21 hu ?_
    cases r24
    obtain ⟨gd, P⟩ := P.guard
    refine h_I gd ?_
    refine h_I0 ?_
    exact P.ok _ _ _ st (Rep.bl _)
theorem ok_floor {f : Addr} {fd : FuncData}  (F : Fun K "floor" "floor" s_floor f fd)  : FnOk Pr wo K mg base CX0 1 f fd ["one"] (sp_floor K) := by
  refine F.ok sc_floor (fun vs H Q E h => ?_) (fun cdv A outer s H0 vs Q E hr h => ?_)
  · obtain ⟨_, _, _, _, rfl, _⟩ := h; rfl
  · obtain ⟨B0, v_one, a_one, w, rfl, r_one, P⟩ := h
    have w0 := w
    have hu := hu_of hr
    have hu64 := hu64_of hr
    refine ⟨_, (pss_one (ps_ret (pe_op op_fdivW (pe_ix (r := rIxT K) ix_tup (pv 0) pe_int (fun _ _ => rfl)) (pe_ix (r := rIxT K) ix_tup (pv 0) pe_int (fun _ _ => rfl))))), ?_⟩
    unfold m_floor at P
    have st := Stp.refl (W := []) w
    refine h_ret ?_
    refine h_op ?_
    refine h_op ?_
    refine h_var rfl ?_
    refine h_c ?_
    obtain ⟨p1, xs2, rfl, hs3, hr4⟩ := Rep.st w (r_one.mono st.ex)
    obtain ⟨u5, hu, r6⟩ := RepL.at hr4 (i := 0) rfl
    refine h_ixT hs3 hu ?_
    cases r6
    refine h_op ?_
    refine h_var rfl ?_
    refine h_c ?_
    obtain ⟨p7, xs8, hv, hs9, hr10⟩ := Rep.st w (r_one.mono st.ex)
    cases hv
    obtain ⟨u11, hu, r12⟩ := RepL.at hr10 (i := 1) rfl
    refine h_ixT hs9 hu ?_
    cases r12
    obtain ⟨gd, P⟩ := P.guard
    refine h_I gd ?_
    exact P.ok _ _ _ st (Rep.int _)
theorem ok__law_cell_at {f : Addr} {fd : FuncData}  (F : Fun K "_law_cell_at" "_law_cell_at" s__law_cell_at f fd) (bI_len : mg "len" = none) : FnOk Pr wo K mg base CX0 1 f fd ["_law_script", "_law_k"] (sp__law_cell_at K) := by
  refine F.ok sc__law_cell_at (fun vs H Q E h => ?_) (fun cdv A outer s H0 vs Q E hr h => ?_)
  · obtain ⟨_, _, _, _, _, rfl, _⟩ := h; rfl
  · obtain ⟨B0, v_script, a_script, a_k, w, rfl, r_script, P⟩ := h
    have w0 := w
    have hu := hu_of hr
    have hu64 := hu64_of hr
    refine ⟨_, (pss_cons (ps_if (pt_cmpR op_lt (pv 1) (pe_callB (r := rLenY K) cr_len (by rfl) bI_len PySem.boot_len (pa_cons (pv 0) pa_nil)) (nomark _)) (pss_one (ps_ret (pe_ix (r := rIxL K) ix_list (pv 0) (pv 1) (fun _ _ => rfl)))) pss_nil)
      (pss_one (ps_ret pe_int))), ?_⟩
    unfold l_cell_at at P
    have st := Stp.refl (W := []) w
    refine h_seq <| h_if ?_
    refine h_test ?_
    refine h_op ?_
    refine h_var rfl ?_
    refine h_cb ?_
    refine h_cons ?_
    refine h_var rfl ?_
    refine h_nil ?_
    obtain ⟨p1, xs2, rfl, hs3, hr4⟩ := Bor.sq (r_script.step st)
    refine h_len hs3 hr4 ?_
    refine h_I0 ?_
    refine h_bl ?_
    refine h_ite (fun c1 => ?_) (fun c1 => ?_)
    · replace P := P.iteT c1
      refine h_ret ?_
      refine h_op ?_
      refine h_var rfl ?_
      refine h_var rfl ?_
      obtain ⟨p5, xs6, hv, hs7, hr8⟩ := Bor.sq (r_script.step st)
      cases hv
      obtain ⟨x9, hx10, P⟩ := P.ix
      obtain ⟨u11, hu, r12⟩ := RepL.atE hr8 hx10
      refine h_ixL hs7 hu ?_
      cases r12
      exact P.ok _ _ _ st (Rep.int _)
    · replace P := P.iteF c1
      refine h_next ?_
      refine h_nx ?_
      refine h_ret ?_
      refine h_c ?_
      exact P.ok _ _ _ st (Rep.int _)
theorem ok__law_digit {f : Addr} {fd : FuncData}  (F : Fun K "_law_digit" "_law_digit" s__law_digit f fd) (bI_len : mg "len" = none) : FnOk Pr wo K mg base CX0 1 f fd ["_law_state", "_law_base"] (sp__law_digit K) := by
  refine F.ok sc__law_digit (fun vs H Q E h => ?_) (fun cdv A outer s H0 vs Q E hr h => ?_)
  · obtain ⟨_, _, _, _, _, rfl, _⟩ := h; rfl
  · obtain ⟨B0, p_state, a_state, a_base, w, rfl, m_state, P⟩ := h
    have w0 := w
    have hu := hu_of hr
    have hu64 := hu64_of hr
    refine ⟨_, (pss_cons (ps_if (pt_cmpR op_eq (pe_callB (r := rLenY K) cr_len (by rfl) bI_len PySem.boot_len (pa_cons (pv 0) pa_nil)) pe_int (nomark _)) (pss_one (ps_expr (pe_bm PySem.F.plainAttrs_list PySem.F.slot_list_extend PySem.F.type_list_extend mt_extend (pv 0) (pa_cons (pe_lst (pa_cons (pe_op op_mod (pe_ix (r := rIxL K) ix_list (pv 0) pe_int (fun _ _ => rfl)) pe_int) (pa_cons pe_int pa_nil))) pa_nil)))) pss_nil)
      (pss_cons (ps_if (pt_cmpR op_ge (pe_ix (r := rIxL K) ix_list (pv 0) pe_int (fun _ _ => rfl)) (pv 1) (nomark _)) (pss_cons (ps_set (i := 2) sc__law_digit.nd rfl (by first | exact Or.inl rfl | exact Or.inr rfl) (pe_op op_mod (pe_ix (r := rIxL K) ix_list (pv 0) pe_int (fun _ _ => rfl)) (pv 1)))
      (pss_cons (ps_asg (pe_op op_fdivW (pe_ix (r := rIxL K) ix_list (pv 0) pe_int (fun _ _ => rfl)) (pv 1)) (pg_sub (pv 0) pe_int set_list))
      (pss_one (ps_ret (pv 2))))) pss_nil)
      (pss_cons (ps_asg (pe_op op_add (pe_ix (r := rIxL K) ix_list (pv 0) pe_int (fun _ _ => rfl)) pe_int) (pg_sub (pv 0) pe_int set_list))
      (pss_cons (ps_set (i := 3) sc__law_digit.nd rfl (by first | exact Or.inl rfl | exact Or.inr rfl) (pe_op op_mod (pe_op op_mul (pe_op op_add (pe_op op_add (pe_ix (r := rIxL K) ix_list (pv 0) pe_int (fun _ _ => rfl)) (pe_op op_mul pe_int (pe_ix (r := rIxL K) ix_list (pv 0) pe_int (fun _ _ => rfl)))) pe_int) pe_int) pe_int))
      (pss_cons (ps_set (i := 3) sc__law_digit.nd rfl (by first | exact Or.inl rfl | exact Or.inr rfl) (pe_op op_mod (pe_op op_mulW (pv 3) (pe_op op_add (pe_op op_fdiv (pv 3) pe_int) pe_int)) pe_int))
      (pss_one (ps_ret (pe_op op_mod (pe_op op_mod (pe_op op_mulW (pv 3) (pe_op op_add (pe_op op_fdiv (pv 3) pe_int) pe_int)) pe_int) (pv 1))))))))), ?_⟩
    unfold l_digit at P
    have st := Stp.refl (W := [p_state]) w
    have wj2 := w
    have sj1 := Stp.refl (W := [p_state]) w
    refine h_joinS P (fun (a : (List Int)) σ' H' => ∃ (B' : Hp), Stp [p_state] B0 H0 B' H' ∧ σ' = [some ((.ref p_state)), some (.int a_base), none, none] ∧ Mu K B' H' p_state (a.map enc)) (fun N kk3 P => h_if ?_) ?_
    · skip
      refine h_test ?_
      refine h_op ?_
      refine h_cb ?_
      refine h_cons ?_
      refine h_var rfl ?_
      refine h_nil ?_
      obtain ⟨xs5, hv, hs6, hr7⟩ := Mu.sq m_state
      refine h_len hs6 hr7 ?_
      refine h_c ?_
      refine h_eqI ?_
      refine h_bl ?_
      refine h_ite (fun c1 => ?_) (fun c1 => ?_)
      · replace P := P.iteT c1
        refine h_drop ?_
        refine h_bm ?_
        refine h_var rfl ?_
        refine h_bmL m_state ?_
        refine h_cons ?_
        refine h_lst ?_
        refine h_cons ?_
        refine h_op ?_
        refine h_op ?_
        refine h_var rfl ?_
        refine h_c ?_
        obtain ⟨xs9, hv, hs10, hr11⟩ := Mu.sq m_state
        obtain ⟨x12, hx13, P⟩ := P.ix
        obtain ⟨u14, hu, r15⟩ := RepL.atE hr11 hx13
        refine h_ixL hs10 hu ?_
        cases r15
        refine h_c ?_
        refine h_I (by decide +kernel) ?_
        refine h_cons ?_
        refine h_c ?_
        refine h_nil ?_
        refine h_newM w (ds := (([(x12 % 2147483647), 0] : List Int)).map enc) (K := K) (.cons (Rep.int _) (.cons (Rep.int _) .nil)) (fun p16 H17 hn20 s18 m19 => ?_) (by show 2 ≤ sizeLine; decide)
        have n21 := st.nn hn20
        have n22 := sj1.nn hn20
        have ne23 := Mu.ne m_state hn20
        replace m_state := m_state.step s18 nm0
        replace st := st.go s18 go0
        replace sj1 := sj1.go s18 go0
        replace w := s18.ok
        refine h_nil ?_
        obtain ⟨gd, P⟩ := P.guard
        refine h_extend w m_state m19 gd (fun H24 s25 m_state => ?_)
        replace st := st.go s25 (go1 (.inl (by simp)))
        replace sj1 := sj1.go s25 (go1 (.inl (by simp)))
        replace w := s25.ok
        refine h_nx ?_
        exact kk3 (a_state ++ ([(x12 % 2147483647), 0] : List Int)) _ _ ⟨_, sj1, rfl, m_state⟩ P.ok
      · replace P := P.iteF c1
        refine h_next ?_
        refine h_nx ?_
        exact kk3 a_state _ _ ⟨_, sj1, rfl, m_state⟩ P.ok
    rintro a26 _ H28 ⟨B27, s29, rfl, m_state⟩ P
    replace st := st.go s29 (go1 (.inl (by simp)))
    replace w := s29.ok
    refine h_seq <| h_if ?_
    refine h_test ?_
    refine h_op ?_
    refine h_op ?_
    refine h_var rfl ?_
    refine h_c ?_
    obtain ⟨xs31, hv, hs32, hr33⟩ := Mu.sq m_state
    obtain ⟨x34, hx35, P⟩ := P.ix
    obtain ⟨u36, hu, r37⟩ := RepL.atE hr33 hx35
    refine h_ixL hs32 hu ?_
    cases r37
    refine h_var rfl ?_
    refine h_I0 ?_
    refine h_bl ?_
    refine h_ite (fun c1 => ?_) (fun c1 => ?_)
    · replace P := P.iteT c1
      refine h_set ?_
      refine h_op ?_
      refine h_op ?_
      refine h_var rfl ?_
      refine h_c ?_
      obtain ⟨xs39, hv, hs40, hr41⟩ := Mu.sq m_state
      obtain ⟨x42, hx43, P⟩ := P.ix
      obtain ⟨u44, hu, r45⟩ := RepL.atE hr41 hx43
      refine h_ixL hs40 hu ?_
      cases r45
      refine h_var rfl ?_
      obtain ⟨gd, P⟩ := P.guard
      refine h_I gd ?_
      replace P := P.lt
      generalize hx : (x42 % a_base) = x46 at P ⊢
      refine h_seq ?_
      refine h_asg ?_
      refine h_op ?_
      refine h_op ?_
      refine h_var rfl ?_
      refine h_c ?_
      obtain ⟨xs48, hv, hs49, hr50⟩ := Mu.sq m_state
      obtain ⟨x51, hx52, P⟩ := P.ix
      obtain ⟨u53, hu, r54⟩ := RepL.atE hr50 hx52
      refine h_ixL hs49 hu ?_
      cases r54
      refine h_var rfl ?_
      obtain ⟨gd, P⟩ := P.guard
      refine h_I gd ?_
      refine h_sub ?_
      refine h_var rfl ?_
      refine h_c ?_
      obtain ⟨j56, hj57, P⟩ := P.set
      refine h_setL (b := (x51 / a_base)) w m_state (Rep.int _) hj57 (fun H58 s59 m_state => ?_)
      replace st := st.go s59 (go1 (.inl (by simp)))
      replace w := s59.ok
      generalize hl : List.set a26 j56 (x51 / a_base) = x55 at *
      refine h_nx ?_
      refine h_ret ?_
      refine h_var rfl ?_
      exact P.ok _ _ _ st m_state (Rep.int _)
    · replace P := P.iteF c1
      refine h_next ?_
      refine h_nx ?_
      refine h_seq ?_
      refine h_asg ?_
      refine h_op ?_
      refine h_op ?_
      refine h_var rfl ?_
      refine h_c ?_
      obtain ⟨xs61, hv, hs62, hr63⟩ := Mu.sq m_state
      obtain ⟨x64, hx65, P⟩ := P.ix
      obtain ⟨u66, hu, r67⟩ := RepL.atE hr63 hx65
      refine h_ixL hs62 hu ?_
      cases r67
      refine h_c ?_
      refine h_I0 ?_
      refine h_sub ?_
      refine h_var rfl ?_
      refine h_c ?_
      obtain ⟨j69, hj70, P⟩ := P.set
      refine h_setL (b := (x64 + 1)) w m_state (Rep.int _) hj70 (fun H71 s72 m_state => ?_)
      replace st := st.go s72 (go1 (.inl (by simp)))
      replace w := s72.ok
      generalize hl : List.set a26 j69 (x64 + 1) = x68 at *
      refine h_nx ?_
      refine h_set ?_
      refine h_op ?_
      refine h_op ?_
      refine h_op ?_
      refine h_op ?_
      refine h_op ?_
      refine h_var rfl ?_
      refine h_c ?_
      obtain ⟨xs74, hv, hs75, hr76⟩ := Mu.sq m_state
      obtain ⟨x77, hx78, P⟩ := P.ix
      obtain ⟨u79, hu, r80⟩ := RepL.atE hr76 hx78
      refine h_ixL hs75 hu ?_
      cases r80
      refine h_op ?_
      refine h_c ?_
      refine h_op ?_
      refine h_var rfl ?_
      refine h_c ?_
      obtain ⟨xs82, hv, hs83, hr84⟩ := Mu.sq m_state
      obtain ⟨x85, hx86, P⟩ := P.ix
      obtain ⟨u87, hu, r88⟩ := RepL.atE hr84 hx86
      refine h_ixL hs83 hu ?_
      cases r88
      refine h_I (.inl ⟨by decide +kernel, by decide +kernel⟩) ?_
      refine h_I0 ?_
      refine h_c ?_
      refine h_I0 ?_
      refine h_c ?_
      refine h_I (.inr ⟨by decide +kernel, by decide +kernel⟩) ?_
      refine h_c ?_
      refine h_I (by decide +kernel) ?_
      replace P := P.lt
      generalize hx : ((((x77 + (7919 * x85)) + 1) * 48271) % 2147483647) = x89 at P ⊢
      refine h_set ?_
      refine h_op ?_
      refine h_op ?_
      refine h_var rfl ?_
      refine h_op ?_
      refine h_op ?_
      refine h_var rfl ?_
      refine h_c ?_
      refine h_I ⟨by decide +kernel, by decide +kernel⟩ ?_
      refine h_c ?_
      refine h_I0 ?_
      obtain ⟨gd, P⟩ := P.guard
      refine h_I gd ?_
      refine h_c ?_
      refine h_I (by decide +kernel) ?_
      replace P := P.lt
      generalize hx : ((x89 * ((x89 / 1009) + 69621)) % 2147483647) = x90 at P ⊢
      refine h_ret ?_
      refine h_op ?_
      refine h_op ?_
      refine h_op ?_
      refine h_var rfl ?_
      refine h_op ?_
      refine h_op ?_
      refine h_var rfl ?_
      refine h_c ?_
      refine h_I ⟨by decide +kernel, by decide +kernel⟩ ?_
      refine h_c ?_
      refine h_I0 ?_
      obtain ⟨gd, P⟩ := P.guard
      refine h_I gd ?_
      refine h_c ?_
      refine h_I (by decide +kernel) ?_
      refine h_var rfl ?_
      obtain ⟨gd, P⟩ := P.guard
      refine h_I gd ?_
      exact P.ok _ _ _ st m_state (Rep.int _)
theorem ok__law_great {f : Addr} {fd : FuncData}  (F : Fun K "_law_great" "_law_great" s__law_great f fd) {f__law_digit : Addr} {d__law_digit : FuncData} (g__law_digit : mg "_law_digit" = some (.ref f__law_digit)) (k__law_digit : PySem.W.keepIn K (.ref f__law_digit) = true) (b__law_digit : L2.Binds K d__law_digit ["_law_state", "_law_base"] []) (G__law_digit : FnOk Pr wo K mg base CX0 1 f__law_digit d__law_digit ["_law_state", "_law_base"] (sp__law_digit K)) (bI_range : mg "range" = none) : FnOk Pr wo K mg base CX0 2 f fd ["_law_state"] (sp__law_great K) := by
  refine F.ok sc__law_great (fun vs H Q E h => ?_) (fun cdv A outer s H0 vs Q E hr h => ?_)
  · obtain ⟨_, _, _, _, rfl, _⟩ := h; rfl
  · obtain ⟨B0, p_state, a_state, w, rfl, m_state, P⟩ := h
    have w0 := w
    have hu := hu_of hr
    have hu64 := hu64_of hr
    have hr1 : Room 1 _ := hr.mono (by decide)
    refine ⟨_, (pss_cons (ps_set (i := 1) sc__law_great.nd rfl (by first | exact Or.inl rfl | exact Or.inr rfl) pe_int)
      (pss_cons (ps_for PassesOwn.never rfl (pi_range1 (by rfl) bI_range (pa_cons pe_int pa_nil)) (pg_name (i := 2) sc__law_great.nd rfl (by first | exact Or.inl rfl | exact Or.inr rfl)) (pss_one (ps_set (i := 1) sc__law_great.nd rfl (by first | exact Or.inl rfl | exact Or.inr rfl) (pe_op op_add (pe_op op_mul (pv 1) (pe_op op_pow pe_int pe_int)) (pe_call G__law_digit hr1 rfl g__law_digit k__law_digit b__law_digit .nil pass0 (pa_cons (pv 0) (pa_cons (pe_op op_add (pe_op op_pow pe_int pe_int) pe_int) pa_nil)))))))
      (pss_one (ps_ret (pv 1))))), ?_⟩
    unfold l_great at P
    have st := Stp.refl (W := [p_state]) w
    refine h_set ?_
    refine h_c ?_
    refine h_seq ?_
    refine h_rng1 ?_
    refine h_cons ?_
    refine h_c ?_
    refine h_nil ?_
    have gz1 : (-(2 ^ 62) ≤ (4 : Int) ∧ (4 : Int) < 2 ^ 62) := by decide
    have wj3 := w
    have sj2 := Stp.refl (W := [p_state]) w
    refine h_forR1 P gz1 (fun (a : Int × (List Int)) σ' H' => ∃ (B' : Hp) (o__law_k : Option V), Stp [p_state] B0 H0 B' H' ∧ σ' = [some ((.ref p_state)), some (.int a.1), o__law_k] ∧ Mu K B' H' p_state (a.2.map enc)) ⟨_, _, sj2, rfl, m_state⟩ ?_ ?_
    · rintro N4 T5 x10 a9 _ H14 ⟨B13, o16, s15, rfl, m_state⟩ hlox10 hhix10 kk6 kr7 kb8 P
      replace st := st.go s15 (go1 (.inl (by simp)))
      replace w := s15.ok
      have sj2 := s15
      refine h_gname ?_
      refine h_set1 ?_
      refine h_op ?_
      refine h_op ?_
      refine h_var rfl ?_
      refine h_op (h_c (h_c (h_pow (k := 10000000000) (by decide +kernel) (by decide +kernel) ?_)))
      refine h_I (.inr ⟨by decide +kernel, by decide +kernel⟩) ?_
      refine h_call ?_
      refine h_cons ?_
      refine h_var rfl ?_
      refine h_cons ?_
      refine h_op ?_
      refine h_op (h_c (h_c (h_pow (k := 1000000000) (by decide +kernel) (by decide +kernel) ?_)))
      refine h_c ?_
      refine h_I0 ?_
      refine h_nil ?_
      refine ⟨B13, p_state, a9.2, (1000000000 + 7), w, rfl, m_state, (P.bind).mono (fun x17 P => ?_) (fun _ z => z)⟩
      refine fun v21 B18 H19 s20 m_state r22 => ?_
      replace st := st.go s20 (go1 (.inl (by simp)))
      replace sj2 := sj2.go s20 (go1 (.inl (by simp)))
      replace w := s20.ok
      cases r22
      refine h_I0 ?_
      replace P := P.lt
      generalize hx : ((a9.1 * 10000000000) + x17.1) = x23 at P ⊢
      refine h_nx ?_
      exact kk6 (x23, x17.2) _ _ ⟨_, _, sj2, rfl, m_state⟩ P.ok
    · rintro a24 _ H26 ⟨B25, o28, s27, rfl, m_state⟩ P
      replace st := st.go s27 (go1 (.inl (by simp)))
      replace w := s27.ok
      refine h_nx ?_
      refine h_ret ?_
      refine h_var rfl ?_
      exact P.ok _ _ _ st m_state (Rep.int _)
theorem ok__law_number {f : Addr} {fd : FuncData}  (F : Fun K "_law_number" "_law_number" s__law_number f fd) {f__law_digit : Addr} {d__law_digit : FuncData} (g__law_digit : mg "_law_digit" = some (.ref f__law_digit)) (k__law_digit : PySem.W.keepIn K (.ref f__law_digit) = true) (b__law_digit : L2.Binds K d__law_digit ["_law_state", "_law_base"] []) (G__law_digit : FnOk Pr wo K mg base CX0 1 f__law_digit d__law_digit ["_law_state", "_law_base"] (sp__law_digit K)) {f__law_great : Addr} {d__law_great : FuncData} (g__law_great : mg "_law_great" = some (.ref f__law_great)) (k__law_great : PySem.W.keepIn K (.ref f__law_great) = true) (b__law_great : L2.Binds K d__law_great ["_law_state"] []) (G__law_great : FnOk Pr wo K mg base CX0 2 f__law_great d__law_great ["_law_state"] (sp__law_great K)) : FnOk Pr wo K mg base CX0 3 f fd ["_law_state"] (sp__law_number K) := by
  refine F.ok sc__law_number (fun vs H Q E h => ?_) (fun cdv A outer s H0 vs Q E hr h => ?_)
  · obtain ⟨_, _, _, _, rfl, _⟩ := h; rfl
  · obtain ⟨B0, p_state, a_state, w, rfl, m_state, P⟩ := h
    have w0 := w
    have hu := hu_of hr
    have hu64 := hu64_of hr
    have hr1 : Room 1 _ := hr.mono (by decide)
    have hr2 : Room 2 _ := hr.mono (by decide)
    refine ⟨_, (pss_cons (ps_set (i := 1) sc__law_number.nd rfl (by first | exact Or.inl rfl | exact Or.inr rfl) (pe_call G__law_digit hr1 rfl g__law_digit k__law_digit b__law_digit .nil pass0 (pa_cons (pv 0) (pa_cons pe_int pa_nil))))
      (pss_cons (ps_set (i := 2) sc__law_number.nd rfl (by first | exact Or.inl rfl | exact Or.inr rfl) (pe_ix (r := rIxL K) ix_list (pe_lst (pa_cons pe_int (pa_cons pe_int (pa_cons (pe_un un_neg pe_int) pa_nil)))) (pe_call G__law_digit hr1 rfl g__law_digit k__law_digit b__law_digit .nil pass0 (pa_cons (pv 0) (pa_cons pe_int pa_nil))) (fun _ _ => rfl)))
      (pss_cons (ps_set (i := 3) sc__law_number.nd rfl (by first | exact Or.inl rfl | exact Or.inr rfl) (pe_lst (pa_cons (pe_call G__law_digit hr1 rfl g__law_digit k__law_digit b__law_digit .nil pass0 (pa_cons (pv 0) (pa_cons pe_int pa_nil))) (pa_cons (pe_call G__law_digit hr1 rfl g__law_digit k__law_digit b__law_digit .nil pass0 (pa_cons (pv 0) (pa_cons pe_int pa_nil))) (pa_cons pe_int (pa_cons pe_int (pa_cons (pe_op op_mul pe_int (pe_call G__law_digit hr1 rfl g__law_digit k__law_digit b__law_digit .nil pass0 (pa_cons (pv 0) (pa_cons pe_int pa_nil)))) (pa_cons (pe_op op_pow pe_int pe_int) pa_nil))))))))
      (pss_one (ps_ret (pe_op op_mulW (pv 2) (pe_ix (r := rIxL K) ix_list (pe_op (r := rCatQ K) op_catQ (pv 3) (pe_lst (pa_cons (pe_call G__law_great hr2 rfl g__law_great k__law_great b__law_great .nil pass0 (pa_cons (pv 0) pa_nil)) (pa_cons (pe_op op_fdiv (pe_op op_mul pe_int (pe_call G__law_great hr2 rfl g__law_great k__law_great b__law_great .nil pass0 (pa_cons (pv 0) pa_nil))) (pe_op op_pow pe_int pe_int)) pa_nil)))) (pv 1) (fun _ _ => rfl)))))))), ?_⟩
    unfold l_number at P
    have st := Stp.refl (W := [p_state]) w
    refine h_set ?_
    refine h_call ?_
    refine h_cons ?_
    refine h_var rfl ?_
    refine h_cons ?_
    refine h_c ?_
    refine h_nil ?_
    refine ⟨B0, p_state, a_state, 8, w, rfl, m_state, (P.bind).mono (fun x1 P => ?_) (fun _ z => z)⟩
    refine fun v5 B2 H3 s4 m_state r6 => ?_
    replace st := st.go s4 (go1 (.inl (by simp)))
    replace w := s4.ok
    cases r6
    refine h_set ?_
    refine h_op ?_
    refine h_lst ?_
    refine h_cons ?_
    refine h_c ?_
    refine h_cons ?_
    refine h_c ?_
    refine h_cons ?_
    refine h_un ?_
    refine h_c ?_
    refine h_U ?_
    refine h_nil ?_
    refine h_newL w (ds := (([1, 1, (-1)] : List Int)).map enc) (K := K) (.cons (Rep.int _) (.cons (Rep.int _) (.cons (Rep.int _) .nil))) (fun p7 B8 H9 s10 r11 => ?_) (by show 3 ≤ sizeLine; decide)
    replace m_state := m_state.step s10 nm0
    replace st := st.go s10 go0
    replace w := s10.ok
    replace r11 : Rep K B8 (.ref p7) (enc ([1, 1, (-1)] : List Int)) := r11
    refine h_call ?_
    refine h_cons ?_
    refine h_var rfl ?_
    refine h_cons ?_
    refine h_c ?_
    refine h_nil ?_
    refine ⟨B8, p_state, x1.2, 3, w, rfl, m_state, (P.bind).mono (fun x12 P => ?_) (fun _ z => z)⟩
    refine fun v16 B13 H14 s15 m_state r17 => ?_
    replace r11 := r11.mono s15.ex
    replace st := st.go s15 (go1 (.inl (by simp)))
    replace w := s15.ok
    cases r17
    obtain ⟨p18, xs19, hv, hs20, hr21⟩ := Rep.sq w r11
    cases hv
    obtain ⟨x22, hx23, P⟩ := P.ix
    obtain ⟨u24, hu, r25⟩ := RepL.atE hr21 hx23
    refine h_ixL hs20 hu ?_
    cases r25
    refine h_set ?_
    refine h_lst ?_
    refine h_cons ?_
    refine h_call ?_
    refine h_cons ?_
    refine h_var rfl ?_
    refine h_cons ?_
    refine h_c ?_
    refine h_nil ?_
    refine ⟨B13, p_state, x12.2, 13, w, rfl, m_state, (P.bind).mono (fun x26 P => ?_) (fun _ z => z)⟩
    refine fun v30 B27 H28 s29 m_state r31 => ?_
    replace st := st.go s29 (go1 (.inl (by simp)))
    replace w := s29.ok
    cases r31
    refine h_cons ?_
    refine h_call ?_
    refine h_cons ?_
    refine h_var rfl ?_
    refine h_cons ?_
    refine h_c ?_
    refine h_nil ?_
    refine ⟨B27, p_state, x26.2, 1009, w, rfl, m_state, (P.bind).mono (fun x32 P => ?_) (fun _ z => z)⟩
    refine fun v36 B33 H34 s35 m_state r37 => ?_
    replace st := st.go s35 (go1 (.inl (by simp)))
    replace w := s35.ok
    cases r37
    refine h_cons ?_
    refine h_c ?_
    refine h_cons ?_
    refine h_c ?_
    refine h_cons ?_
    refine h_op ?_
    refine h_c ?_
    refine h_call ?_
    refine h_cons ?_
    refine h_var rfl ?_
    refine h_cons ?_
    refine h_c ?_
    refine h_nil ?_
    refine ⟨B33, p_state, x32.2, 31, w, rfl, m_state, (P.bind).mono (fun x38 P => ?_) (fun _ z => z)⟩
    refine fun v42 B39 H40 s41 m_state r43 => ?_
    replace st := st.go s41 (go1 (.inl (by simp)))
    replace w := s41.ok
    cases r43
    refine h_I (.inl ⟨by decide +kernel, by decide +kernel⟩) ?_
    refine h_cons ?_
    refine h_op (h_c (h_c (h_pow (k := 1000000000) (by decide +kernel) (by decide +kernel) ?_)))
    refine h_nil ?_
    refine h_newL w (ds := (([x26.1, x32.1, 0, 1, (6 * x38.1), 1000000000] : List Int)).map enc) (K := K) (.cons (Rep.int _) (.cons (Rep.int _) (.cons (Rep.int _) (.cons (Rep.int _) (.cons (Rep.int _) (.cons (Rep.int _) .nil)))))) (fun p44 B45 H46 s47 r48 => ?_) (by show 6 ≤ sizeLine; decide)
    replace m_state := m_state.step s47 nm0
    replace st := st.go s47 go0
    replace w := s47.ok
    replace r48 : Rep K B45 (.ref p44) (enc ([x26.1, x32.1, 0, 1, (6 * x38.1), 1000000000] : List Int)) := r48
    refine h_ret ?_
    refine h_op ?_
    refine h_var rfl ?_
    refine h_op ?_
    refine h_op ?_
    refine h_var rfl ?_
    refine h_lst ?_
    refine h_cons ?_
    refine h_call ?_
    refine h_cons ?_
    refine h_var rfl ?_
    refine h_nil ?_
    refine ⟨B45, p_state, x38.2, w, rfl, m_state, (P.bind).mono (fun x49 P => ?_) (fun _ z => z)⟩
    refine fun v53 B50 H51 s52 m_state r54 => ?_
    replace r48 := r48.mono s52.ex
    replace st := st.go s52 (go1 (.inl (by simp)))
    replace w := s52.ok
    cases r54
    refine h_cons ?_
    refine h_op ?_
    refine h_op ?_
    refine h_c ?_
    refine h_call ?_
    refine h_cons ?_
    refine h_var rfl ?_
    refine h_nil ?_
    refine ⟨B50, p_state, x49.2, w, rfl, m_state, (P.bind).mono (fun x55 P => ?_) (fun _ z => z)⟩
    refine fun v59 B56 H57 s58 m_state r60 => ?_
    replace r48 := r48.mono s58.ex
    replace st := st.go s58 (go1 (.inl (by simp)))
    replace w := s58.ok
    cases r60
    refine h_I (.inl ⟨by decide +kernel, by decide +kernel⟩) ?_
    refine h_op (h_c (h_c (h_pow (k := 100000) (by decide +kernel) (by decide +kernel) ?_)))
    refine h_I ⟨by decide +kernel, by decide +kernel⟩ ?_
    refine h_nil ?_
    refine h_newL w (ds := (([x49.1, ((210 * x55.1) / 100000)] : List Int)).map enc) (K := K) (.cons (Rep.int _) (.cons (Rep.int _) .nil)) (fun p61 B62 H63 s64 r65 => ?_) (by show 2 ≤ sizeLine; decide)
    replace m_state := m_state.step s64 nm0
    replace r48 := r48.mono s64.ex
    replace st := st.go s64 go0
    replace w := s64.ok
    replace r65 : Rep K B62 (.ref p61) (enc ([x49.1, ((210 * x55.1) / 100000)] : List Int)) := r65
    obtain ⟨p66, xs67, hv, hs68, hr69⟩ := Rep.sq w r48
    cases hv
    obtain ⟨p70, xs71, hv, hs72, hr73⟩ := Rep.sq w r65
    cases hv
    obtain ⟨gd, P⟩ := P.guard
    refine h_cat hs68 hs72 (by have g := gd; simp only [hr69.length, hr73.length, List.length_map] at g ⊢; exact Nat.le_trans g (by decide)) ?_
    refine h_nwL w (ds := ((([x26.1, x32.1, 0, 1, (6 * x38.1), 1000000000] : List Int) ++ ([x49.1, ((210 * x55.1) / 100000)] : List Int))).map enc) (K := K) (RepL.cat hr69 hr73) (fun p74 B75 H76 s77 r78 => ?_) 
    replace m_state := m_state.step s77 nm0
    replace r48 := r48.mono s77.ex
    replace st := st.go s77 go0
    replace w := s77.ok
    replace r78 : Rep K B75 (.ref p74) (enc (([x26.1, x32.1, 0, 1, (6 * x38.1), 1000000000] : List Int) ++ ([x49.1, ((210 * x55.1) / 100000)] : List Int))) := r78
    refine h_var rfl ?_
    obtain ⟨p79, xs80, hv, hs81, hr82⟩ := Rep.sq w r78
    cases hv
    obtain ⟨x83, hx84, P⟩ := P.ix
    obtain ⟨u85, hu, r86⟩ := RepL.atE hr82 hx84
    refine h_ixL hs81 hu ?_
    cases r86
    obtain ⟨gd, P⟩ := P.guard
    refine h_I gd ?_
    exact P.ok _ _ _ st m_state (Rep.int _)
theorem ok__law_shared {f : Addr} {fd : FuncData}  (F : Fun K "_law_shared" "_law_shared" s__law_shared f fd) (bI_abs : mg "abs" = none) : FnOk Pr wo K mg base CX0 1 f fd ["_law_one", "_law_other"] (sp__law_shared K) := by
  refine F.ok sc__law_shared (fun vs H Q E h => ?_) (fun cdv A outer s H0 vs Q E hr h => ?_)
  · obtain ⟨_, _, _, _, rfl, _⟩ := h; rfl
  · obtain ⟨B0, a_one, a_other, w, rfl, P⟩ := h
    have w0 := w
    have hu := hu_of hr
    have hu64 := hu64_of hr
    refine ⟨_, (pss_cons (ps_set (i := 0) sc__law_shared.nd rfl (by first | exact Or.inl rfl | exact Or.inr rfl) (pe_callB cr_abs (by rfl) bI_abs PyProof.Rows.boot_abs (pa_cons (pv 0) pa_nil)))
      (pss_cons (ps_set (i := 1) sc__law_shared.nd rfl (by first | exact Or.inl rfl | exact Or.inr rfl) (pe_callB cr_abs (by rfl) bI_abs PyProof.Rows.boot_abs (pa_cons (pv 1) pa_nil)))
      (pss_cons (ps_while PassesOwn.never (pt_cmpR op_gt (pv 1) pe_int (nomark _)) (pss_one (ps_par rfl sc__law_shared.nd (i := 0) (j := 1) rfl rfl (by decide) rfl rfl (pa_cons (pv 1) (pa_cons (pe_op op_mod (pv 0) (pv 1)) pa_nil)) rfl)))
      (pss_one (ps_ret (pv 0)))))), ?_⟩
    unfold l_shared at P
    have st := Stp.refl (W := []) w
    refine h_set ?_
    refine h_cb ?_
    refine h_cons ?_
    refine h_var rfl ?_
    refine h_nil ?_
    refine h_abs ?_
    replace P := P.lt
    generalize hx : (absI a_one) = x1 at P ⊢
    refine h_set ?_
    refine h_cb ?_
    refine h_cons ?_
    refine h_var rfl ?_
    refine h_nil ?_
    refine h_abs ?_
    replace P := P.lt
    generalize hx : (absI a_other) = x2 at P ⊢
    refine h_seq ?_
    have wj4 := w
    have sj3 := Stp.refl (W := []) w
    refine h_while P (fun (a : Int × Int) σ' H' => ∃ (B' : Hp), Stp [] B0 H0 B' H' ∧ σ' = [some (.int a.1), some (.int a.2)]) ⟨_, sj3, rfl⟩ ?_ ?_
    · rintro N5 C6 T7 a12 _ H14 ⟨B13, s15, rfl⟩ kn8 kk9 kr10 kb11 P
      replace st := st.go s15 go0
      replace w := s15.ok
      have sj3 := s15
      refine h_test ?_
      refine h_op ?_
      refine h_var rfl ?_
      refine h_c ?_
      refine h_I0 ?_
      refine h_bl ?_
      refine h_ite (fun c1 => ?_) (fun c1 => ?_)
      · replace P := P.iteT c1
        refine ⟨N5, kn8, ?_⟩
        refine h_par ?_
        refine h_cons ?_
        refine h_var rfl ?_
        refine h_cons ?_
        refine h_op ?_
        refine h_var rfl ?_
        refine h_var rfl ?_
        obtain ⟨gd, P⟩ := P.guard
        refine h_I gd ?_
        refine h_nil ?_
        refine h_two ?_
        replace P := P.lt
        generalize hx : (a12.1 % a12.2) = x16 at P ⊢
        refine h_nx ?_
        exact kk9 (a12.2, x16) _ _ ⟨_, sj3, rfl⟩ P.ok
      · replace P := P.iteF c1
        exact kb11 (a12.1, a12.2) _ _ ⟨_, sj3, rfl⟩ P.ok
    · rintro a17 _ H19 ⟨B18, s20, rfl⟩ P
      replace st := st.go s20 go0
      replace w := s20.ok
      refine h_nx ?_
      refine h_ret ?_
      refine h_var rfl ?_
      exact P.ok _ _ _ st (Rep.int _)
theorem ok__law_whole {f : Addr} {fd : FuncData}  (F : Fun K "_law_whole" "_law_whole" s__law_whole f fd) (bI_isinstance : mg "isinstance" = none) (bI_int : mg "int" = none) (bI_bool : mg "bool" = none) : FnOk Pr wo K mg base CX0 1 f fd ["_law_thing"] (sp__law_whole K) := by
  refine F.ok sc__law_whole (fun vs H Q E h => ?_) (fun cdv A outer s H0 vs Q E hr h => ?_)
  · obtain ⟨_, _, _, _, rfl, _⟩ := h; rfl
  · obtain ⟨B0, v_thing, a_thing, w, rfl, r_thing, P⟩ := h
    have w0 := w
    have hu := hu_of hr
    have hu64 := hu64_of hr
    refine ⟨_, (pss_one (ps_ret (pe_and (pe_callB (r := rIsi K) call_isi (by rfl) bI_isinstance PyProof.Rows.boot_isinstance (pa_cons (pv 0) (pa_cons (pe_bltn (v := .ty "int") (by rfl) bI_int Y.boot_int rfl) pa_nil))) (pe_one (pe_not (pe_callB (r := rIsi K) call_isi (by rfl) bI_isinstance PyProof.Rows.boot_isinstance (pa_cons (pv 0) (pa_cons (pe_bltn (v := .ty "bool") (by rfl) bI_bool Y.boot_bool rfl) pa_nil)))))))), ?_⟩
    unfold l_whole at P
    have st := Stp.refl (W := []) w
    refine h_ret ?_
    refine h_and ?_
    refine h_cb ?_
    refine h_cons ?_
    refine h_var rfl ?_
    refine h_cons ?_
    refine h_c ?_
    refine h_nil ?_
    refine isi (t := "int") w (r_thing.mono st.ex) ?_
    refine h_bl ?_
    refine h_ite (fun c1 => ?_) (fun c1 => ?_)
    · replace P := P.iteT c1
      refine h_not ?_
      refine h_cb ?_
      refine h_cons ?_
      refine h_var rfl ?_
      refine h_cons ?_
      refine h_c ?_
      refine h_nil ?_
      refine isi (t := "bool") w (r_thing.mono st.ex) ?_
      refine h_bl ?_
      exact P.ok _ _ _ st (Rep.bl _)
    · replace P := P.iteF c1
      exact P.ok _ _ _ st (Rep.bl _)
theorem ok__law_truth {f : Addr} {fd : FuncData}  (F : Fun K "_law_truth" "_law_truth" s__law_truth f fd) (bI_int : mg "int" = none) : FnOk Pr wo K mg base CX0 1 f fd ["_law_found", "_law_due"] (sp__law_truth K) := by
  refine F.ok sc__law_truth (fun vs H Q E h => ?_) (fun cdv A outer s H0 vs Q E hr h => ?_)
  · obtain ⟨_, _, _, _, rfl, _⟩ := h; rfl
  · obtain ⟨B0, a_found, a_due, w, rfl, P⟩ := h
    have w0 := w
    have hu := hu_of hr
    have hu64 := hu64_of hr
    refine ⟨_, (pss_one (ps_ret (pe_ix (r := rIxL K) ix_list (pe_lst (pa_cons (pe_cmpR op_isBl (pv 0) pe_bl (nomark _)) (pa_cons (pe_cmpR op_isBl (pv 0) pe_bl (nomark _)) pa_nil))) (pe_callTy cr_int (by rfl) bI_int Y.boot_int (pa_cons (pv 1) pa_nil)) (fun _ _ => rfl)))), ?_⟩
    unfold l_truth at P
    have st := Stp.refl (W := []) w
    refine h_ret ?_
    refine h_op ?_
    refine h_lst ?_
    refine h_cons ?_
    refine h_op ?_
    refine h_var rfl ?_
    refine h_c ?_
    refine h_isB ?_
    refine h_cons ?_
    refine h_op ?_
    refine h_var rfl ?_
    refine h_c ?_
    refine h_isB ?_
    refine h_nil ?_
    refine h_newL w (ds := (([(decide (a_found = false)), (decide (a_found = true))] : List Bool)).map enc) (K := K) (.cons (Rep.bl _) (.cons (Rep.bl _) .nil)) (fun p1 B2 H3 s4 r5 => ?_) (by show 2 ≤ sizeLine; decide)
    replace st := st.go s4 go0
    replace w := s4.ok
    replace r5 : Rep K B2 (.ref p1) (enc ([(decide (a_found = false)), (decide (a_found = true))] : List Bool)) := r5
    refine h_cb ?_
    refine h_cons ?_
    refine h_var rfl ?_
    refine h_nil ?_
    refine h_intB ?_
    obtain ⟨p6, xs7, hv, hs8, hr9⟩ := Rep.sq w r5
    cases hv
    obtain ⟨x10, hx11, P⟩ := P.ix
    obtain ⟨u12, hu, r13⟩ := RepL.atE hr9 hx11
    refine h_ixL hs8 hu ?_
    cases r13
    exact P.ok _ _ _ st (Rep.bl _)
theorem ok__law_lowest {f : Addr} {fd : FuncData}  (F : Fun K "_law_lowest" "_law_lowest" s__law_lowest f fd) {f__law_whole : Addr} {d__law_whole : FuncData} (g__law_whole : mg "_law_whole" = some (.ref f__law_whole)) (k__law_whole : PySem.W.keepIn K (.ref f__law_whole) = true) (b__law_whole : L2.Binds K d__law_whole ["_law_thing"] []) (G__law_whole : FnOk Pr wo K mg base CX0 1 f__law_whole d__law_whole ["_law_thing"] (sp__law_whole K)) {f__law_shared : Addr} {d__law_shared : FuncData} (g__law_shared : mg "_law_shared" = some (.ref f__law_shared)) (k__law_shared : PySem.W.keepIn K (.ref f__law_shared) = true) (b__law_shared : L2.Binds K d__law_shared ["_law_one", "_law_other"] []) (G__law_shared : FnOk Pr wo K mg base CX0 1 f__law_shared d__law_shared ["_law_one", "_law_other"] (sp__law_shared K)) (bI_isinstance : mg "isinstance" = none) (bI_tuple : mg "tuple" = none) (bI_len : mg "len" = none) : FnOk Pr wo K mg base CX0 2 f fd ["_law_found"] (sp__law_lowest K) := by
  refine F.ok sc__law_lowest (fun vs H Q E h => ?_) (fun cdv A outer s H0 vs Q E hr h => ?_)
  · obtain ⟨_, _, _, _, rfl, _⟩ := h; rfl
  · obtain ⟨B0, v_found, a_found, w, rfl, r_found, P⟩ := h
    have w0 := w
    have hu := hu_of hr
    have hu64 := hu64_of hr
    have hr1 : Room 1 _ := hr.mono (by decide)
    refine ⟨_, (pss_cons (ps_if (PW.pt (pw_or (pt_not (pt_val (pe_callB (r := rIsi K) call_isi (by rfl) bI_isinstance PyProof.Rows.boot_isinstance (pa_cons (pv 0) (pa_cons (pe_bltn (v := .ty "tuple") (by rfl) bI_tuple Y.boot_tuple rfl) pa_nil))))) (pw_or (pt_cmpR op_ne (pe_callB (r := rLenY K) cr_len (by rfl) bI_len PySem.boot_len (pa_cons (pv 0) pa_nil)) pe_int (nomark _)) (pw_or (pt_not (pt_val (pe_call G__law_whole hr1 rfl g__law_whole k__law_whole b__law_whole .nil pass0 (pa_cons (pe_ix (r := rIxT K) ix_tup (pv 0) pe_int (fun _ _ => rfl)) pa_nil)))) (pw_or1 (pt_not (pt_val (pe_call G__law_whole hr1 rfl g__law_whole k__law_whole b__law_whole .nil pass0 (pa_cons (pe_ix (r := rIxT K) ix_tup (pv 0) pe_int (fun _ _ => rfl)) pa_nil))))))))) (pss_one (ps_ret pe_bl)) pss_nil)
      (pss_one (ps_ret (pe_and (pe_cmpR op_gt (pe_ix (r := rIxT K) ix_tup (pv 0) pe_int (fun _ _ => rfl)) pe_int (nomark _)) (pe_one (pe_cmpR op_eq (pe_call G__law_shared hr1 rfl g__law_shared k__law_shared b__law_shared .nil pass0 (pa_cons (pe_ix (r := rIxT K) ix_tup (pv 0) pe_int (fun _ _ => rfl)) (pa_cons (pe_ix (r := rIxT K) ix_tup (pv 0) pe_int (fun _ _ => rfl)) pa_nil))) pe_int (nomark _))))))), ?_⟩
    unfold l_lowest at P
    have st := Stp.refl (W := []) w
    refine h_seq <| h_if ?_
    refine h_tor ?_
    refine h_tnot ?_
    refine h_tB ?_
    refine h_cb ?_
    refine h_cons ?_
    refine h_var rfl ?_
    refine h_cons ?_
    refine h_c ?_
    refine h_nil ?_
    refine isi (t := "tuple") w (r_found.mono st.ex) ?_
    refine h_bl ?_
    refine h_iteN (fun c1 => ?_) (fun c1 => ?_)
    · replace P := P.iteF c1
      refine h_iteT ?_
      refine h_ret ?_
      refine h_c ?_
      exact P.ok _ _ _ st (Rep.bl _)
    · replace P := P.iteT c1
      refine h_tor ?_
      refine h_test ?_
      refine h_op ?_
      refine h_cb ?_
      refine h_cons ?_
      refine h_var rfl ?_
      refine h_nil ?_
      obtain ⟨l1, hl2, P⟩ := P.asT
      have rc3 := (r_found.mono st.ex)
      rw [hl2] at rc3
      obtain ⟨p4, xs5, rfl, hs6, hr7⟩ := Rep.st w rc3
      refine h_lenTl hs6 hr7 ?_
      refine h_c ?_
      refine h_neI ?_
      refine h_bl ?_
      refine h_ite (fun c1 => ?_) (fun c1 => ?_)
      · replace P := P.iteT c1
        refine h_iteT ?_
        refine h_ret ?_
        refine h_c ?_
        exact P.ok _ _ _ st (Rep.bl _)
      · replace P := P.iteF c1
        refine h_tor ?_
        refine h_tnot ?_
        refine h_tB ?_
        refine h_call ?_
        refine h_cons ?_
        refine h_op ?_
        refine h_var rfl ?_
        refine h_c ?_
        obtain ⟨l8, hl9, P⟩ := P.asT
        have rc10 := (r_found.mono st.ex)
        rw [hl9] at rc10
        obtain ⟨p11, xs12, hv, hs13, hr14⟩ := Rep.st w rc10
        cases hv
        obtain ⟨x15, hx16, P⟩ := P.ix
        obtain ⟨u17, hu, r18⟩ := RepL.atE hr14 hx16
        refine h_ixT hs13 hu ?_
        refine h_nil ?_
        refine ⟨B0, u17, x15, w, rfl, r18, (P.bind).mono (fun x19 P => ?_) (fun _ z => z)⟩
        refine fun v23 B20 H21 s22 r24 => ?_
        replace r18 := r18.mono s22.ex
        replace st := st.go s22 go0
        replace w := s22.ok
        cases r24
        refine h_bl ?_
        refine h_iteN (fun c1 => ?_) (fun c1 => ?_)
        · replace P := P.iteF c1
          refine h_iteT ?_
          refine h_ret ?_
          refine h_c ?_
          exact P.ok _ _ _ st (Rep.bl _)
        · replace P := P.iteT c1
          refine h_tnot ?_
          refine h_tB ?_
          refine h_call ?_
          refine h_cons ?_
          refine h_op ?_
          refine h_var rfl ?_
          refine h_c ?_
          obtain ⟨l25, hl26, P⟩ := P.asT
          have rc27 := (r_found.mono st.ex)
          rw [hl26] at rc27
          obtain ⟨p28, xs29, hv, hs30, hr31⟩ := Rep.st w rc27
          cases hv
          obtain ⟨x32, hx33, P⟩ := P.ix
          obtain ⟨u34, hu, r35⟩ := RepL.atE hr31 hx33
          refine h_ixT hs30 hu ?_
          refine h_nil ?_
          refine ⟨B20, u34, x32, w, rfl, r35, (P.bind).mono (fun x36 P => ?_) (fun _ z => z)⟩
          refine fun v40 B37 H38 s39 r41 => ?_
          replace r35 := r35.mono s39.ex
          replace st := st.go s39 go0
          replace w := s39.ok
          cases r41
          refine h_bl ?_
          refine h_iteN (fun c1 => ?_) (fun c1 => ?_)
          · replace P := P.iteF c1
            refine h_ret ?_
            refine h_c ?_
            exact P.ok _ _ _ st (Rep.bl _)
          · replace P := P.iteT c1
            refine h_next ?_
            refine h_nx ?_
            refine h_ret ?_
            refine h_and ?_
            refine h_op ?_
            refine h_op ?_
            refine h_var rfl ?_
            refine h_c ?_
            obtain ⟨l42, hl43, P⟩ := P.asT
            have rc44 := (r_found.mono st.ex)
            rw [hl43] at rc44
            obtain ⟨p45, xs46, hv, hs47, hr48⟩ := Rep.st w rc44
            cases hv
            obtain ⟨x49, hx50, P⟩ := P.ix
            obtain ⟨u51, hu, r52⟩ := RepL.atE hr48 hx50
            refine h_ixT hs47 hu ?_
            refine h_c ?_
            obtain ⟨i53, hi54, P⟩ := P.asI
            have rc55 := r52
            rw [hi54] at rc55
            cases rc55
            refine h_I0 ?_
            refine h_bl ?_
            refine h_ite (fun c1 => ?_) (fun c1 => ?_)
            · replace P := P.iteT c1
              refine h_op ?_
              refine h_call ?_
              refine h_cons ?_
              refine h_op ?_
              refine h_var rfl ?_
              refine h_c ?_
              obtain ⟨l56, hl57, P⟩ := P.asT
              have rc58 := (r_found.mono st.ex)
              rw [hl57] at rc58
              obtain ⟨p59, xs60, hv, hs61, hr62⟩ := Rep.st w rc58
              cases hv
              obtain ⟨x63, hx64, P⟩ := P.ix
              obtain ⟨u65, hu, r66⟩ := RepL.atE hr62 hx64
              refine h_ixT hs61 hu ?_
              refine h_cons ?_
              refine h_op ?_
              refine h_var rfl ?_
              refine h_c ?_
              obtain ⟨l67, hl68, P⟩ := P.asT
              have rc69 := (r_found.mono st.ex)
              rw [hl68] at rc69
              obtain ⟨p70, xs71, hv, hs72, hr73⟩ := Rep.st w rc69
              cases hv
              obtain ⟨x74, hx75, P⟩ := P.ix
              obtain ⟨u76, hu, r77⟩ := RepL.atE hr73 hx75
              refine h_ixT hs72 hu ?_
              refine h_nil ?_
              obtain ⟨i78, hi79, P⟩ := P.asI
              have rc80 := r66
              rw [hi79] at rc80
              cases rc80
              obtain ⟨i81, hi82, P⟩ := P.asI
              have rc83 := r77
              rw [hi82] at rc83
              cases rc83
              refine ⟨B37, i78, i81, w, rfl, (P.bind).mono (fun x84 P => ?_) (fun _ z => z)⟩
              refine fun v88 B85 H86 s87 r89 => ?_
              replace r66 := r66.mono s87.ex
              replace r77 := r77.mono s87.ex
              replace st := st.go s87 go0
              replace w := s87.ok
              cases r89
              refine h_c ?_
              refine h_eqI ?_
              exact P.ok _ _ _ st (Rep.bl _)
            · replace P := P.iteF c1
              exact P.ok _ _ _ st (Rep.bl _)
theorem ok__law_refused {f : Addr} {fd : FuncData}  (F : Fun K "_law_refused" "_law_refused" s__law_refused f fd) {C_ScrollError : Addr} (T_ScrollError : ExcR K mg "ScrollError" C_ScrollError) {C_NoFraction : Addr} (T_NoFraction : ExcR K mg "NoFraction" C_NoFraction) (p_NoFraction_NoFraction : PySem.W.subIn K (.ref C_NoFraction) (.ref C_NoFraction) = some true) (p_NoFraction_ScrollError : PySem.W.subIn K (.ref C_NoFraction) (.ref C_ScrollError) = some true) {f_fraction : Addr} {d_fraction : FuncData} (g_fraction : mg "fraction" = some (.ref f_fraction)) (k_fraction : PySem.W.keepIn K (.ref f_fraction) = true) (b_fraction : L2.Binds K d_fraction ["top", "bottom"] []) (G_fraction : FnOk Pr wo K mg base (L2.CX Pr wo) 2 f_fraction d_fraction ["top", "bottom"] (sp_fraction K mg)) (bI_isinstance : mg "isinstance" = none) (bI_ValueError : mg "ValueError" = none) : FnOk Pr wo K mg base CX0 3 f fd ["_law_first", "_law_second"] (sp__law_refused K) := by
  refine F.ok sc__law_refused (fun vs H Q E h => ?_) (fun cdv A outer s H0 vs Q E hr h => ?_)
  · obtain ⟨_, _, _, _, _, _, rfl, _⟩ := h; rfl
  · obtain ⟨B0, v_first, a_first, v_second, a_second, w, rfl, r_first, r_second, P⟩ := h
    have w0 := w
    have hu := hu_of hr
    have hu64 := hu64_of hr
    have hr2 : Room 2 _ := hr.mono (by decide)
    refine ⟨_, (pss_cons (ps_tryA (K := K) (Wout := fun _ _ _ _ => False) (i := 2) rfl rfl sc__law_refused.nd rfl rfl (T_ScrollError.names rfl (by decide)) takes0 (fun W pn xe tk _ => (pss_one (ps_expr (pe_callS G_fraction hr2 rfl g_fraction k_fraction b_fraction (fun σ => passAt tk σ) (pa_cons (pv 0) (pa_cons (pv 1) pa_nil)))))) (fun a oe cls d pn hz hf => (pss_one (ps_ret (pe_and (pe_isE (K := K) (a := a) (cls := cls) (d := d) rfl (fun Dc e1 e2 ec => by subst e1 e2; exact (pe_callB (r := rIsE K Dc a) (call_isE ec hz hf) (by rfl) bI_isinstance PyProof.Rows.boot_isinstance (pa_cons (pv 2) (pa_cons (pe_glob (v := .ref C_NoFraction) (by rfl) T_NoFraction.g rfl) pa_nil))))) (pe_one (pe_isE (K := K) (a := a) (cls := cls) (d := d) rfl (fun Dc e1 e2 ec => by subst e1 e2; exact (pe_callB (r := rIsE K Dc a) (call_isE ec hz hf) (by rfl) bI_isinstance PyProof.Rows.boot_isinstance (pa_cons (pv 2) (pa_cons (pe_bltn (v := .ty "ValueError") (by rfl) bI_ValueError Y.boot_ValueError rfl) pa_nil)))))))))))
      (pss_one (ps_ret pe_bl))), ?_⟩
    unfold l_refused at P
    have st := Stp.refl (W := []) w
    refine h_seq ?_
    have wj2 := w
    have sj1 := Stp.refl (W := []) w
    refine h_tryJ P (fun (a : Unit) σ' H' => ∃ (B' : Hp) (o_e : Option V), Stp [] B0 H0 B' H' ∧ σ' = [some (v_first), some (v_second), o_e]) (fun N3 T4 kk5 kr6 P => ?_) ?_
    · refine h_tryA ?_
      refine h_drop ?_
      refine h_callS ?_
      refine h_cons ?_
      refine h_var rfl ?_
      refine h_cons ?_
      refine h_var rfl ?_
      refine h_nil ?_
      refine ⟨B0, v_first, a_first, v_second, a_second, w, rfl, (r_first.mono st.ex), (r_second.mono st.ex), Post.mono2 P.bind (fun e13 P => ?_) (fun x7 P => ?_)⟩
      · skip
        rintro C17 B14 H15 g s16
        replace st := st.go s16 go0
        replace sj1 := sj1.go s16 go0
        replace w := s16.ok
        obtain ⟨ec, ea⟩ := e13
        have he := P.guard.1
        replace P := P.guard.2
        obtain rfl : ec = "NoFraction" := List.mem_singleton.mp he
        obtain rfl : C_NoFraction = C17 := Value.ref.inj (Option.some.inj (T_NoFraction.g.symm.trans g))
        refine h_wAs T_ScrollError.toExcT p_NoFraction_ScrollError (fun ax18 haax18 => ?_)
        refine h_ret ?_
        refine h_and ?_
        refine h_isE T_NoFraction.toExcT (h_cons (h_var rfl (h_cons (h_c (h_nil ?_)))))
        refine h_isER (T_NoFraction.kit p_NoFraction_NoFraction) ?_
        refine h_bl ?_
        refine h_ite (fun c1 => ?_) (fun c1 => ?_)
        · replace P := P.iteT c1
          refine h_isE T_NoFraction.toExcT (h_cons (h_var rfl (h_cons (h_c (h_nil ?_)))))
          refine h_isEB T_NoFraction.kitVE ?_
          exact (kr6 _ P.ok) _ _ _ st (Rep.bl _)
        · replace P := P.iteF c1
          exact (kr6 _ P.ok) _ _ _ st (Rep.bl _)
      refine fun v11 B8 H9 s10 r12 => ?_
      replace st := st.go s10 go0
      replace sj1 := sj1.go s10 go0
      replace w := s10.ok
      refine h_nx ?_
      exact kk5 () _ _ ⟨_, _, sj1, rfl⟩ P.ok
    · rintro a19 _ H21 ⟨B20, o23, s22, rfl⟩ P
      replace st := st.go s22 go0
      replace w := s22.ok
      refine h_nx ?_
      refine h_ret ?_
      refine h_c ?_
      exact P.ok _ _ _ st (Rep.bl _)
theorem ok__law_written_otherwise {f : Addr} {fd : FuncData}  (F : Fun K "_law_written_otherwise" "_law_written_otherwise" s__law_written_otherwise f fd) {f__law_digit : Addr} {d__law_digit : FuncData} (g__law_digit : mg "_law_digit" = some (.ref f__law_digit)) (k__law_digit : PySem.W.keepIn K (.ref f__law_digit) = true) (b__law_digit : L2.Binds K d__law_digit ["_law_state", "_law_base"] []) (G__law_digit : FnOk Pr wo K mg base CX0 1 f__law_digit d__law_digit ["_law_state", "_law_base"] (sp__law_digit K)) (bI_len : mg "len" = none) (bI_str : mg "str" = none) : FnOk Pr wo K mg base CX0 2 f fd ["_law_found", "_law_state"] (sp__law_written_otherwise K) := by
  refine F.ok sc__law_written_otherwise (fun vs H Q E h => ?_) (fun cdv A outer s H0 vs Q E hr h => ?_)
  · obtain ⟨_, _, _, _, _, _, rfl, _⟩ := h; rfl
  · obtain ⟨B0, v_found, a_found, p_state, a_state, w, rfl, r_found, m_state, P⟩ := h
    have w0 := w
    have hu := hu_of hr
    have hu64 := hu64_of hr
    have hr1 : Room 1 _ := hr.mono (by decide)
    refine ⟨_, (pss_cons (ps_asg (pv 0) (pg_tup rfl (pgs_cons (pg_name (i := 2) sc__law_written_otherwise.nd rfl (by first | exact Or.inl rfl | exact Or.inr rfl)) (pgs_cons (pg_name (i := 3) sc__law_written_otherwise.nd rfl (by first | exact Or.inl rfl | exact Or.inr rfl)) pgs_nil))))
      (pss_cons (ps_set (i := 4) sc__law_written_otherwise.nd rfl (by first | exact Or.inl rfl | exact Or.inr rfl) (pe_op op_add pe_int (pe_call G__law_digit hr1 rfl g__law_digit k__law_digit b__law_digit .nil pass0 (pa_cons (pv 1) (pa_cons pe_int pa_nil)))))
      (pss_cons (ps_set (i := 5) sc__law_written_otherwise.nd rfl (by first | exact Or.inl rfl | exact Or.inr rfl) (pe_lst (pa_cons (pe_tup (pa_cons (pe_op op_mulW (pv 2) (pv 4)) (pa_cons (pe_op op_mulW (pv 3) (pv 4)) pa_nil))) (pa_cons (pe_tup (pa_cons (pe_un un_neg (pv 2)) (pa_cons (pe_un un_neg (pv 3)) pa_nil))) (pa_cons (pe_lst (pa_cons (pv 2) (pa_cons (pv 3) pa_nil))) (pa_cons (pe_tup (pa_cons (pv 2) pa_nil)) (pa_cons (pe_tup (pa_cons (pv 2) (pa_cons (pv 3) (pa_cons pe_int pa_nil)))) (pa_cons (pe_tup (pa_cons (pv 2) (pa_cons pe_int pa_nil))) pa_nil))))))))
      (pss_cons (ps_set (i := 5) sc__law_written_otherwise.nd rfl (by first | exact Or.inl rfl | exact Or.inr rfl) (pe_op (r := rCatQ K) op_catQ (pv 5) (pe_lst (pa_cons (pe_tup (pa_cons (pe_callTy cr_str (by rfl) bI_str Y.boot_str (pa_cons (pe_op op_mod (pv 2) pe_int) pa_nil)) (pa_cons (pv 3) pa_nil))) (pa_cons (pe_tup (pa_cons (pv 2) (pa_cons pe_non pa_nil))) (pa_cons (pe_tup (pa_cons pe_bl (pa_cons pe_int pa_nil))) (pa_cons (pe_tup (pa_cons pe_int (pa_cons pe_int pa_nil))) (pa_cons (pv 2) (pa_cons pe_non (pa_cons (pe_tup (pa_cons pe_int (pa_cons pe_bl pa_nil))) pa_nil))))))))))
      (pss_cons (ps_set (i := 5) sc__law_written_otherwise.nd rfl (by first | exact Or.inl rfl | exact Or.inr rfl) (pe_op (r := rCatQ K) op_catQ (pv 5) (pe_lst (pa_cons (pe_tup (pa_cons (pv 2) (pa_cons (pe_op op_sub (pv 3) (pv 3)) pa_nil))) pa_nil))))
      (pss_one (ps_ret (pe_ix (r := rIxL K) ix_list (pv 5) (pe_call G__law_digit hr1 rfl g__law_digit k__law_digit b__law_digit .nil pass0 (pa_cons (pv 1) (pa_cons (pe_callB (r := rLenY K) cr_len (by rfl) bI_len PySem.boot_len (pa_cons (pv 5) pa_nil)) pa_nil))) (fun _ _ => rfl))))))))), ?_⟩
    unfold l_written_otherwise at P
    have st := Stp.refl (W := [p_state]) w
    refine h_seq ?_
    refine h_asg ?_
    refine h_var rfl ?_
    obtain ⟨p1, xs2, rfl, hs3, hr4⟩ := Rep.st w (r_found.mono st.ex)
    obtain ⟨u5, u7, rfl, r6, r8⟩ := RepL.open2 hr4
    refine h_tupG hs3 rfl ?_
    refine h_gcons ?_
    refine h_gname ?_
    cases r6
    refine h_gcons ?_
    refine h_gname ?_
    cases r8
    refine h_gnil ?_
    refine h_nx ?_
    refine h_set ?_
    refine h_op ?_
    refine h_c ?_
    refine h_call ?_
    refine h_cons ?_
    refine h_var rfl ?_
    refine h_cons ?_
    refine h_c ?_
    refine h_nil ?_
    refine ⟨B0, p_state, a_state, 9, w, rfl, m_state, (P.bind).mono (fun x9 P => ?_) (fun _ z => z)⟩
    refine fun v13 B10 H11 s12 m_state r14 => ?_
    replace st := st.go s12 (go1 (.inl (by simp)))
    replace w := s12.ok
    cases r14
    refine h_I0 ?_
    replace P := P.lt
    generalize hx : (2 + x9.1) = x15 at P ⊢
    refine h_set ?_
    refine h_lst ?_
    refine h_cons ?_
    refine h_tup ?_
    refine h_cons ?_
    refine h_op ?_
    refine h_var rfl ?_
    refine h_var rfl ?_
    obtain ⟨gd, P⟩ := P.guard
    refine h_I gd ?_
    refine h_cons ?_
    refine h_op ?_
    refine h_var rfl ?_
    refine h_var rfl ?_
    obtain ⟨gd, P⟩ := P.guard
    refine h_I gd ?_
    refine h_nil ?_
    refine h_newT w (K := K) (.cons (Rep.int _) (.cons (Rep.int _) .nil)) (fun p16 B17 H18 s19 r20 => ?_) (by show 2 ≤ sizeLine; decide)
    replace m_state := m_state.step s19 nm0
    replace st := st.go s19 go0
    replace w := s19.ok
    replace r20 : Rep K B17 (.ref p16) (enc (⟨(a_found.a * x15), (a_found.b * x15)⟩ : (Tp2 Int Int))) := r20
    refine h_cons ?_
    refine h_tup ?_
    refine h_cons ?_
    refine h_un ?_
    refine h_var rfl ?_
    refine h_U ?_
    refine h_cons ?_
    refine h_un ?_
    refine h_var rfl ?_
    refine h_U ?_
    refine h_nil ?_
    refine h_newT w (K := K) (.cons (Rep.int _) (.cons (Rep.int _) .nil)) (fun p21 B22 H23 s24 r25 => ?_) (by show 2 ≤ sizeLine; decide)
    replace m_state := m_state.step s24 nm0
    replace r20 := r20.mono s24.ex
    replace st := st.go s24 go0
    replace w := s24.ok
    replace r25 : Rep K B22 (.ref p21) (enc (⟨(-a_found.a), (-a_found.b)⟩ : (Tp2 Int Int))) := r25
    refine h_cons ?_
    refine h_lst ?_
    refine h_cons ?_
    refine h_var rfl ?_
    refine h_cons ?_
    refine h_var rfl ?_
    refine h_nil ?_
    refine h_newL w (ds := (([a_found.a, a_found.b] : List Int)).map enc) (K := K) (.cons (Rep.int _) (.cons (Rep.int _) .nil)) (fun p26 B27 H28 s29 r30 => ?_) (by show 2 ≤ sizeLine; decide)
    replace m_state := m_state.step s29 nm0
    replace r20 := r20.mono s29.ex
    replace r25 := r25.mono s29.ex
    replace st := st.go s29 go0
    replace w := s29.ok
    replace r30 : Rep K B27 (.ref p26) (enc ([a_found.a, a_found.b] : List Int)) := r30
    refine h_cons ?_
    refine h_tup ?_
    refine h_cons ?_
    refine h_var rfl ?_
    refine h_nil ?_
    refine h_newT w (K := K) (.cons (Rep.int _) .nil) (fun p31 B32 H33 s34 r35 => ?_) (by show 1 ≤ sizeLine; decide)
    replace m_state := m_state.step s34 nm0
    replace r20 := r20.mono s34.ex
    replace r25 := r25.mono s34.ex
    replace r30 := r30.mono s34.ex
    replace st := st.go s34 go0
    replace w := s34.ok
    replace r35 : Rep K B32 (.ref p31) (enc (⟨a_found.a⟩ : (Tp1 Int))) := r35
    refine h_cons ?_
    refine h_tup ?_
    refine h_cons ?_
    refine h_var rfl ?_
    refine h_cons ?_
    refine h_var rfl ?_
    refine h_cons ?_
    refine h_c ?_
    refine h_nil ?_
    refine h_newT w (K := K) (.cons (Rep.int _) (.cons (Rep.int _) (.cons (Rep.int _) .nil))) (fun p36 B37 H38 s39 r40 => ?_) (by show 3 ≤ sizeLine; decide)
    replace m_state := m_state.step s39 nm0
    replace r20 := r20.mono s39.ex
    replace r25 := r25.mono s39.ex
    replace r30 := r30.mono s39.ex
    replace r35 := r35.mono s39.ex
    replace st := st.go s39 go0
    replace w := s39.ok
    replace r40 : Rep K B37 (.ref p36) (enc (⟨a_found.a, a_found.b, 1⟩ : (Tp3 Int Int Int))) := r40
    refine h_cons ?_
    refine h_tup ?_
    refine h_cons ?_
    refine h_var rfl ?_
    refine h_cons ?_
    refine h_c ?_
    refine h_nil ?_
    refine h_newT w (K := K) (.cons (Rep.int _) (.cons (Rep.int _) .nil)) (fun p41 B42 H43 s44 r45 => ?_) (by show 2 ≤ sizeLine; decide)
    replace m_state := m_state.step s44 nm0
    replace r20 := r20.mono s44.ex
    replace r25 := r25.mono s44.ex
    replace r30 := r30.mono s44.ex
    replace r35 := r35.mono s44.ex
    replace r40 := r40.mono s44.ex
    replace st := st.go s44 go0
    replace w := s44.ok
    replace r45 : Rep K B42 (.ref p41) (enc (⟨a_found.a, 0⟩ : (Tp2 Int Int))) := r45
    refine h_nil ?_
    refine h_newL w (ds := (([(enc (⟨(a_found.a * x15), (a_found.b * x15)⟩ : (Tp2 Int Int))), (enc (⟨(-a_found.a), (-a_found.b)⟩ : (Tp2 Int Int))), (enc ([a_found.a, a_found.b] : List Int)), (enc (⟨a_found.a⟩ : (Tp1 Int))), (enc (⟨a_found.a, a_found.b, 1⟩ : (Tp3 Int Int Int))), (enc (⟨a_found.a, 0⟩ : (Tp2 Int Int)))] : List D)).map enc) (K := K) (.cons r20 (.cons r25 (.cons r30 (.cons r35 (.cons r40 (.cons r45 .nil)))))) (fun p46 B47 H48 s49 r50 => ?_) (by show 6 ≤ sizeLine; decide)
    replace m_state := m_state.step s49 nm0
    replace st := st.go s49 go0
    replace w := s49.ok
    replace r50 : Rep K B47 (.ref p46) (enc ([(enc (⟨(a_found.a * x15), (a_found.b * x15)⟩ : (Tp2 Int Int))), (enc (⟨(-a_found.a), (-a_found.b)⟩ : (Tp2 Int Int))), (enc ([a_found.a, a_found.b] : List Int)), (enc (⟨a_found.a⟩ : (Tp1 Int))), (enc (⟨a_found.a, a_found.b, 1⟩ : (Tp3 Int Int Int))), (enc (⟨a_found.a, 0⟩ : (Tp2 Int Int)))] : List D)) := r50
    refine h_set ?_
    refine h_op ?_
    refine h_var rfl ?_
    refine h_lst ?_
    refine h_cons ?_
    refine h_tup ?_
    refine h_cons ?_
    refine h_cb ?_
    refine h_cons ?_
    refine h_op ?_
    refine h_var rfl ?_
    refine h_c ?_
    refine h_I (by decide +kernel) ?_
    refine h_nil ?_
    obtain ⟨gd, P⟩ := P.guard
    refine h_str gd ?_
    refine h_cons ?_
    refine h_var rfl ?_
    refine h_nil ?_
    refine h_newT w (K := K) (.cons (Rep.str _) (.cons (Rep.int _) .nil)) (fun p51 B52 H53 s54 r55 => ?_) (by show 2 ≤ sizeLine; decide)
    replace m_state := m_state.step s54 nm0
    replace r50 := r50.mono s54.ex
    replace st := st.go s54 go0
    replace w := s54.ok
    replace r55 : Rep K B52 (.ref p51) (enc (⟨(toString (a_found.a % 1000) : Str), a_found.b⟩ : (Tp2 Str Int))) := r55
    refine h_cons ?_
    refine h_tup ?_
    refine h_cons ?_
    refine h_var rfl ?_
    refine h_cons ?_
    refine h_c ?_
    refine h_nil ?_
    refine h_newT w (K := K) (.cons (Rep.int _) (.cons Rep.non .nil)) (fun p56 B57 H58 s59 r60 => ?_) (by show 2 ≤ sizeLine; decide)
    replace m_state := m_state.step s59 nm0
    replace r50 := r50.mono s59.ex
    replace r55 := r55.mono s59.ex
    replace st := st.go s59 go0
    replace w := s59.ok
    replace r60 : Rep K B57 (.ref p56) (enc (⟨a_found.a, ()⟩ : (Tp2 Int Unit))) := r60
    refine h_cons ?_
    refine h_tup ?_
    refine h_cons ?_
    refine h_c ?_
    refine h_cons ?_
    refine h_c ?_
    refine h_nil ?_
    refine h_newT w (K := K) (.cons (Rep.bl _) (.cons (Rep.int _) .nil)) (fun p61 B62 H63 s64 r65 => ?_) (by show 2 ≤ sizeLine; decide)
    replace m_state := m_state.step s64 nm0
    replace r50 := r50.mono s64.ex
    replace r55 := r55.mono s64.ex
    replace r60 := r60.mono s64.ex
    replace st := st.go s64 go0
    replace w := s64.ok
    replace r65 : Rep K B62 (.ref p61) (enc (⟨true, 1⟩ : (Tp2 Bool Int))) := r65
    refine h_cons ?_
    refine h_tup ?_
    refine h_cons ?_
    refine h_c ?_
    refine h_cons ?_
    refine h_c ?_
    refine h_nil ?_
    refine h_newT w (K := K) (.cons (Rep.int _) (.cons (Rep.int _) .nil)) (fun p66 B67 H68 s69 r70 => ?_) (by show 2 ≤ sizeLine; decide)
    replace m_state := m_state.step s69 nm0
    replace r50 := r50.mono s69.ex
    replace r55 := r55.mono s69.ex
    replace r60 := r60.mono s69.ex
    replace r65 := r65.mono s69.ex
    replace st := st.go s69 go0
    replace w := s69.ok
    replace r70 : Rep K B67 (.ref p66) (enc (⟨0, 2⟩ : (Tp2 Int Int))) := r70
    refine h_cons ?_
    refine h_var rfl ?_
    refine h_cons ?_
    refine h_c ?_
    refine h_cons ?_
    refine h_tup ?_
    refine h_cons ?_
    refine h_c ?_
    refine h_cons ?_
    refine h_c ?_
    refine h_nil ?_
    refine h_newT w (K := K) (.cons (Rep.int _) (.cons (Rep.bl _) .nil)) (fun p71 B72 H73 s74 r75 => ?_) (by show 2 ≤ sizeLine; decide)
    replace m_state := m_state.step s74 nm0
    replace r50 := r50.mono s74.ex
    replace r55 := r55.mono s74.ex
    replace r60 := r60.mono s74.ex
    replace r65 := r65.mono s74.ex
    replace r70 := r70.mono s74.ex
    replace st := st.go s74 go0
    replace w := s74.ok
    replace r75 : Rep K B72 (.ref p71) (enc (⟨1, true⟩ : (Tp2 Int Bool))) := r75
    refine h_nil ?_
    refine h_newL w (ds := (([(enc (⟨(toString (a_found.a % 1000) : Str), a_found.b⟩ : (Tp2 Str Int))), (enc (⟨a_found.a, ()⟩ : (Tp2 Int Unit))), (enc (⟨true, 1⟩ : (Tp2 Bool Int))), (enc (⟨0, 2⟩ : (Tp2 Int Int))), (enc (a_found.a : Int)), (enc ()), (enc (⟨1, true⟩ : (Tp2 Int Bool)))] : List D)).map enc) (K := K) (.cons r55 (.cons r60 (.cons r65 (.cons r70 (.cons (Rep.int _) (.cons Rep.non (.cons r75 .nil))))))) (fun p76 B77 H78 s79 r80 => ?_) (by show 7 ≤ sizeLine; decide)
    replace m_state := m_state.step s79 nm0
    replace r50 := r50.mono s79.ex
    replace st := st.go s79 go0
    replace w := s79.ok
    replace r80 : Rep K B77 (.ref p76) (enc ([(enc (⟨(toString (a_found.a % 1000) : Str), a_found.b⟩ : (Tp2 Str Int))), (enc (⟨a_found.a, ()⟩ : (Tp2 Int Unit))), (enc (⟨true, 1⟩ : (Tp2 Bool Int))), (enc (⟨0, 2⟩ : (Tp2 Int Int))), (enc (a_found.a : Int)), (enc ()), (enc (⟨1, true⟩ : (Tp2 Int Bool)))] : List D)) := r80
    obtain ⟨p81, xs82, hv, hs83, hr84⟩ := Rep.sq w r50
    cases hv
    obtain ⟨p85, xs86, hv, hs87, hr88⟩ := Rep.sq w r80
    cases hv
    obtain ⟨gd, P⟩ := P.guard
    refine h_cat hs83 hs87 (by have g := gd; simp only [hr84.length, hr88.length, List.length_map] at g ⊢; exact Nat.le_trans g (by decide)) ?_
    refine h_nwL w (ds := ((([(enc (⟨(a_found.a * x15), (a_found.b * x15)⟩ : (Tp2 Int Int))), (enc (⟨(-a_found.a), (-a_found.b)⟩ : (Tp2 Int Int))), (enc ([a_found.a, a_found.b] : List Int)), (enc (⟨a_found.a⟩ : (Tp1 Int))), (enc (⟨a_found.a, a_found.b, 1⟩ : (Tp3 Int Int Int))), (enc (⟨a_found.a, 0⟩ : (Tp2 Int Int)))] : List D) ++ ([(enc (⟨(toString (a_found.a % 1000) : Str), a_found.b⟩ : (Tp2 Str Int))), (enc (⟨a_found.a, ()⟩ : (Tp2 Int Unit))), (enc (⟨true, 1⟩ : (Tp2 Bool Int))), (enc (⟨0, 2⟩ : (Tp2 Int Int))), (enc (a_found.a : Int)), (enc ()), (enc (⟨1, true⟩ : (Tp2 Int Bool)))] : List D))).map enc) (K := K) (RepL.cat hr84 hr88) (fun p89 B90 H91 s92 r93 => ?_) 
    replace m_state := m_state.step s92 nm0
    replace r50 := r50.mono s92.ex
    replace st := st.go s92 go0
    replace w := s92.ok
    replace r93 : Rep K B90 (.ref p89) (enc (([(enc (⟨(a_found.a * x15), (a_found.b * x15)⟩ : (Tp2 Int Int))), (enc (⟨(-a_found.a), (-a_found.b)⟩ : (Tp2 Int Int))), (enc ([a_found.a, a_found.b] : List Int)), (enc (⟨a_found.a⟩ : (Tp1 Int))), (enc (⟨a_found.a, a_found.b, 1⟩ : (Tp3 Int Int Int))), (enc (⟨a_found.a, 0⟩ : (Tp2 Int Int)))] : List D) ++ ([(enc (⟨(toString (a_found.a % 1000) : Str), a_found.b⟩ : (Tp2 Str Int))), (enc (⟨a_found.a, ()⟩ : (Tp2 Int Unit))), (enc (⟨true, 1⟩ : (Tp2 Bool Int))), (enc (⟨0, 2⟩ : (Tp2 Int Int))), (enc (a_found.a : Int)), (enc ()), (enc (⟨1, true⟩ : (Tp2 Int Bool)))] : List D))) := r93
    refine h_set ?_
    refine h_op ?_
    refine h_var rfl ?_
    refine h_lst ?_
    refine h_cons ?_
    refine h_tup ?_
    refine h_cons ?_
    refine h_var rfl ?_
    refine h_cons ?_
    refine h_op ?_
    refine h_var rfl ?_
    refine h_var rfl ?_
    refine h_I0 ?_
    refine h_nil ?_
    refine h_newT w (K := K) (.cons (Rep.int _) (.cons (Rep.int _) .nil)) (fun p94 B95 H96 s97 r98 => ?_) (by show 2 ≤ sizeLine; decide)
    replace m_state := m_state.step s97 nm0
    replace r93 := r93.mono s97.ex
    replace st := st.go s97 go0
    replace w := s97.ok
    replace r98 : Rep K B95 (.ref p94) (enc (⟨a_found.a, (a_found.b - a_found.b)⟩ : (Tp2 Int Int))) := r98
    refine h_nil ?_
    refine h_newL w (ds := (([(⟨a_found.a, (a_found.b - a_found.b)⟩ : (Tp2 Int Int))] : List (Tp2 Int Int))).map enc) (K := K) (.cons r98 .nil) (fun p99 B100 H101 s102 r103 => ?_) (by show 1 ≤ sizeLine; decide)
    replace m_state := m_state.step s102 nm0
    replace r93 := r93.mono s102.ex
    replace st := st.go s102 go0
    replace w := s102.ok
    replace r103 : Rep K B100 (.ref p99) (enc ([(⟨a_found.a, (a_found.b - a_found.b)⟩ : (Tp2 Int Int))] : List (Tp2 Int Int))) := r103
    obtain ⟨p104, xs105, hv, hs106, hr107⟩ := Rep.sq w r93
    cases hv
    obtain ⟨p108, xs109, hv, hs110, hr111⟩ := Rep.sq w r103
    cases hv
    replace hr111 := hr111.toD
    obtain ⟨gd, P⟩ := P.guard
    refine h_cat hs106 hs110 (by have g := gd; simp only [hr107.length, hr111.length, List.length_map] at g ⊢; exact Nat.le_trans g (by decide)) ?_
    refine h_nwL w (ds := (((([(enc (⟨(a_found.a * x15), (a_found.b * x15)⟩ : (Tp2 Int Int))), (enc (⟨(-a_found.a), (-a_found.b)⟩ : (Tp2 Int Int))), (enc ([a_found.a, a_found.b] : List Int)), (enc (⟨a_found.a⟩ : (Tp1 Int))), (enc (⟨a_found.a, a_found.b, 1⟩ : (Tp3 Int Int Int))), (enc (⟨a_found.a, 0⟩ : (Tp2 Int Int)))] : List D) ++ ([(enc (⟨(toString (a_found.a % 1000) : Str), a_found.b⟩ : (Tp2 Str Int))), (enc (⟨a_found.a, ()⟩ : (Tp2 Int Unit))), (enc (⟨true, 1⟩ : (Tp2 Bool Int))), (enc (⟨0, 2⟩ : (Tp2 Int Int))), (enc (a_found.a : Int)), (enc ()), (enc (⟨1, true⟩ : (Tp2 Int Bool)))] : List D)) ++ (([(⟨a_found.a, (a_found.b - a_found.b)⟩ : (Tp2 Int Int))] : List (Tp2 Int Int)).map enc : List D))).map enc) (K := K) (RepL.cat hr107 hr111) (fun p112 B113 H114 s115 r116 => ?_) 
    replace m_state := m_state.step s115 nm0
    replace r93 := r93.mono s115.ex
    replace st := st.go s115 go0
    replace w := s115.ok
    replace r116 : Rep K B113 (.ref p112) (enc ((([(enc (⟨(a_found.a * x15), (a_found.b * x15)⟩ : (Tp2 Int Int))), (enc (⟨(-a_found.a), (-a_found.b)⟩ : (Tp2 Int Int))), (enc ([a_found.a, a_found.b] : List Int)), (enc (⟨a_found.a⟩ : (Tp1 Int))), (enc (⟨a_found.a, a_found.b, 1⟩ : (Tp3 Int Int Int))), (enc (⟨a_found.a, 0⟩ : (Tp2 Int Int)))] : List D) ++ ([(enc (⟨(toString (a_found.a % 1000) : Str), a_found.b⟩ : (Tp2 Str Int))), (enc (⟨a_found.a, ()⟩ : (Tp2 Int Unit))), (enc (⟨true, 1⟩ : (Tp2 Bool Int))), (enc (⟨0, 2⟩ : (Tp2 Int Int))), (enc (a_found.a : Int)), (enc ()), (enc (⟨1, true⟩ : (Tp2 Int Bool)))] : List D)) ++ (([(⟨a_found.a, (a_found.b - a_found.b)⟩ : (Tp2 Int Int))] : List (Tp2 Int Int)).map enc : List D))) := r116
    refine h_ret ?_
    refine h_op ?_
    refine h_var rfl ?_
    refine h_call ?_
    refine h_cons ?_
    refine h_var rfl ?_
    refine h_cons ?_
    refine h_cb ?_
    refine h_cons ?_
    refine h_var rfl ?_
    refine h_nil ?_
    obtain ⟨p117, xs118, hv, hs119, hr120⟩ := Rep.sq w r116
    cases hv
    refine h_len hs119 hr120 ?_
    refine h_nil ?_
    refine ⟨B113, p_state, x9.2, (((([(enc (⟨(a_found.a * x15), (a_found.b * x15)⟩ : (Tp2 Int Int))), (enc (⟨(-a_found.a), (-a_found.b)⟩ : (Tp2 Int Int))), (enc ([a_found.a, a_found.b] : List Int)), (enc (⟨a_found.a⟩ : (Tp1 Int))), (enc (⟨a_found.a, a_found.b, 1⟩ : (Tp3 Int Int Int))), (enc (⟨a_found.a, 0⟩ : (Tp2 Int Int)))] : List D) ++ ([(enc (⟨(toString (a_found.a % 1000) : Str), a_found.b⟩ : (Tp2 Str Int))), (enc (⟨a_found.a, ()⟩ : (Tp2 Int Unit))), (enc (⟨true, 1⟩ : (Tp2 Bool Int))), (enc (⟨0, 2⟩ : (Tp2 Int Int))), (enc (a_found.a : Int)), (enc ()), (enc (⟨1, true⟩ : (Tp2 Int Bool)))] : List D)) ++ (([(⟨a_found.a, (a_found.b - a_found.b)⟩ : (Tp2 Int Int))] : List (Tp2 Int Int)).map enc : List D)).length : Int), w, rfl, m_state, (P.bind).mono (fun x121 P => ?_) (fun _ z => z)⟩
    refine fun v125 B122 H123 s124 m_state r126 => ?_
    replace r116 := r116.mono s124.ex
    replace st := st.go s124 (go1 (.inl (by simp)))
    replace w := s124.ok
    cases r126
    obtain ⟨p127, xs128, hv, hs129, hr130⟩ := Rep.sq w r116
    cases hv
    obtain ⟨x131, hx132, P⟩ := P.ix
    obtain ⟨u133, hu, r134⟩ := RepL.atE hr130 hx132
    refine h_ixL hs129 hu ?_
    exact P.ok _ _ _ st m_state r134
theorem ok__law_right {f : Addr} {fd : FuncData}  (F : Fun K "_law_right" "_law_right" s__law_right f fd) {f_floor : Addr} {d_floor : FuncData} (g_floor : mg "floor" = some (.ref f_floor)) (k_floor : PySem.W.keepIn K (.ref f_floor) = true) (b_floor : L2.Binds K d_floor ["one"] []) (G_floor : FnOk Pr wo K mg base CX0 1 f_floor d_floor ["one"] (sp_floor K)) {f__law_whole : Addr} {d__law_whole : FuncData} (g__law_whole : mg "_law_whole" = some (.ref f__law_whole)) (k__law_whole : PySem.W.keepIn K (.ref f__law_whole) = true) (b__law_whole : L2.Binds K d__law_whole ["_law_thing"] []) (G__law_whole : FnOk Pr wo K mg base CX0 1 f__law_whole d__law_whole ["_law_thing"] (sp__law_whole K)) {f__law_lowest : Addr} {d__law_lowest : FuncData} (g__law_lowest : mg "_law_lowest" = some (.ref f__law_lowest)) (k__law_lowest : PySem.W.keepIn K (.ref f__law_lowest) = true) (b__law_lowest : L2.Binds K d__law_lowest ["_law_found"] []) (G__law_lowest : FnOk Pr wo K mg base CX0 2 f__law_lowest d__law_lowest ["_law_found"] (sp__law_lowest K)) {f_is_fraction : Addr} {d_is_fraction : FuncData} (g_is_fraction : mg "is_fraction" = some (.ref f_is_fraction)) (k_is_fraction : PySem.W.keepIn K (.ref f_is_fraction) = true) (b_is_fraction : L2.Binds K d_is_fraction ["thing"] []) (G_is_fraction : FnOk Pr wo K mg base CX0 2 f_is_fraction d_is_fraction ["thing"] (sp_is_fraction K)) {f__law_truth : Addr} {d__law_truth : FuncData} (g__law_truth : mg "_law_truth" = some (.ref f__law_truth)) (k__law_truth : PySem.W.keepIn K (.ref f__law_truth) = true) (b__law_truth : L2.Binds K d__law_truth ["_law_found", "_law_due"] []) (G__law_truth : FnOk Pr wo K mg base CX0 1 f__law_truth d__law_truth ["_law_found", "_law_due"] (sp__law_truth K)) {f_is_moment : Addr} {d_is_moment : FuncData} (g_is_moment : mg "is_moment" = some (.ref f_is_moment)) (k_is_moment : PySem.W.keepIn K (.ref f_is_moment) = true) (b_is_moment : L2.Binds K d_is_moment ["thing"] []) (G_is_moment : FnOk Pr wo K mg base CX0 3 f_is_moment d_is_moment ["thing"] (sp_is_moment K)) : FnOk Pr wo K mg base CX0 4 f fd ["_law_found", "_law_first", "_law_second"] (sp__law_right K) := by
  refine F.ok sc__law_right (fun vs H Q E h => ?_) (fun cdv A outer s H0 vs Q E hr h => ?_)
  · obtain ⟨_, _, _, _, _, _, rfl, _⟩ := h; rfl
  · obtain ⟨B0, v_found, a_found, a_first, a_second, w, rfl, r_found, P⟩ := h
    have w0 := w
    have hu := hu_of hr
    have hu64 := hu64_of hr
    have hr1 : Room 1 _ := hr.mono (by decide)
    have hr2 : Room 2 _ := hr.mono (by decide)
    have hr3 : Room 3 _ := hr.mono (by decide)
    refine ⟨_, (pss_cons (ps_if (PW.pt (pw_or (pt_not (pt_val (pe_call G__law_lowest hr2 rfl g__law_lowest k__law_lowest b__law_lowest .nil pass0 (pa_cons (pv 0) pa_nil)))) (pw_or1 (pt_cmpR op_ne (pe_op op_mulW (pe_ix (r := rIxT K) ix_tup (pv 0) pe_int (fun _ _ => rfl)) (pv 2)) (pe_op op_mulW (pv 1) (pe_ix (r := rIxT K) ix_tup (pv 0) pe_int (fun _ _ => rfl))) (nomark _))))) (pss_one (ps_ret pe_bl)) pss_nil)
      (pss_cons (ps_if (PW.pt (pw_or (pt_cmpR op_notBl (pe_call G_is_fraction hr2 rfl g_is_fraction k_is_fraction b_is_fraction .nil pass0 (pa_cons (pv 0) pa_nil)) pe_bl (nomark _)) (pw_or1 (pt_not (pt_val (pe_call G__law_truth hr1 rfl g__law_truth k__law_truth b__law_truth .nil pass0 (pa_cons (pe_call G_is_moment hr3 rfl g_is_moment k_is_moment b_is_moment .nil pass0 (pa_cons (pv 0) pa_nil)) (pa_cons (pe_cmpR op_ge (pe_ix (r := rIxT K) ix_tup (pv 0) pe_int (fun _ _ => rfl)) pe_int (nomark _)) pa_nil)))))))) (pss_one (ps_ret pe_bl)) pss_nil)
      (pss_cons (ps_set (i := 3) sc__law_right.nd rfl (by first | exact Or.inl rfl | exact Or.inr rfl) (pe_call G_floor hr1 rfl g_floor k_floor b_floor .nil pass0 (pa_cons (pv 0) pa_nil)))
      (pss_one (ps_ret (pe_and (pe_call G__law_whole hr1 rfl g__law_whole k__law_whole b__law_whole .nil pass0 (pa_cons (pv 3) pa_nil)) (pe_one (pe_chain op_le op_lt (pe_op op_mulW (pv 3) (pe_ix (r := rIxT K) ix_tup (pv 0) pe_int (fun _ _ => rfl))) (pe_ix (r := rIxT K) ix_tup (pv 0) pe_int (fun _ _ => rfl)) (pe_op op_mulW (pe_op op_add (pv 3) pe_int) (pe_ix (r := rIxT K) ix_tup (pv 0) pe_int (fun _ _ => rfl))))))))))), ?_⟩
    unfold l_right at P
    have st := Stp.refl (W := []) w
    refine h_seq <| h_if ?_
    refine h_tor ?_
    refine h_tnot ?_
    refine h_tB ?_
    refine h_call ?_
    refine h_cons ?_
    refine h_var rfl ?_
    refine h_nil ?_
    refine ⟨B0, v_found, (enc a_found), w, rfl, (r_found.mono st.ex), (P.bind).mono (fun x1 P => ?_) (fun _ z => z)⟩
    refine fun v5 B2 H3 s4 r6 => ?_
    replace st := st.go s4 go0
    replace w := s4.ok
    cases r6
    refine h_bl ?_
    refine h_iteN (fun c1 => ?_) (fun c1 => ?_)
    · replace P := P.iteF c1
      refine h_iteT ?_
      refine h_ret ?_
      refine h_c ?_
      exact P.ok _ _ _ st (Rep.bl _)
    · replace P := P.iteT c1
      refine h_test ?_
      refine h_op ?_
      refine h_op ?_
      refine h_op ?_
      refine h_var rfl ?_
      refine h_c ?_
      obtain ⟨p7, xs8, rfl, hs9, hr10⟩ := Rep.st w (r_found.mono st.ex)
      obtain ⟨u11, hu, r12⟩ := RepL.at hr10 (i := 0) rfl
      refine h_ixT hs9 hu ?_
      cases r12
      refine h_var rfl ?_
      obtain ⟨gd, P⟩ := P.guard
      refine h_I gd ?_
      refine h_op ?_
      refine h_var rfl ?_
      refine h_op ?_
      refine h_var rfl ?_
      refine h_c ?_
      obtain ⟨p13, xs14, hv, hs15, hr16⟩ := Rep.st w (r_found.mono st.ex)
      cases hv
      obtain ⟨u17, hu, r18⟩ := RepL.at hr16 (i := 1) rfl
      refine h_ixT hs15 hu ?_
      cases r18
      obtain ⟨gd, P⟩ := P.guard
      refine h_I gd ?_
      refine h_neI ?_
      refine h_bl ?_
      refine h_ite (fun c1 => ?_) (fun c1 => ?_)
      · replace P := P.iteT c1
        refine h_ret ?_
        refine h_c ?_
        exact P.ok _ _ _ st (Rep.bl _)
      · replace P := P.iteF c1
        refine h_next ?_
        refine h_nx ?_
        refine h_seq <| h_if ?_
        refine h_tor ?_
        refine h_test ?_
        refine h_op ?_
        refine h_call ?_
        refine h_cons ?_
        refine h_var rfl ?_
        refine h_nil ?_
        refine ⟨B2, (.ref p7), (enc a_found), w, rfl, (r_found.mono st.ex), (P.bind).mono (fun x19 P => ?_) (fun _ z => z)⟩
        refine fun v23 B20 H21 s22 r24 => ?_
        replace st := st.go s22 go0
        replace w := s22.ok
        cases r24
        refine h_c ?_
        refine h_isnotB ?_
        refine h_bl ?_
        refine h_ite (fun c1 => ?_) (fun c1 => ?_)
        · replace P := P.iteT c1
          refine h_iteT ?_
          refine h_ret ?_
          refine h_c ?_
          exact P.ok _ _ _ st (Rep.bl _)
        · replace P := P.iteF c1
          refine h_tnot ?_
          refine h_tB ?_
          refine h_call ?_
          refine h_cons ?_
          refine h_call ?_
          refine h_cons ?_
          refine h_var rfl ?_
          refine h_nil ?_
          refine ⟨B20, (.ref p7), (enc a_found), w, rfl, (r_found.mono st.ex), (P.bind).mono (fun x25 P => ?_) (fun _ z => z)⟩
          refine fun v29 B26 H27 s28 r30 => ?_
          replace st := st.go s28 go0
          replace w := s28.ok
          cases r30
          refine h_cons ?_
          refine h_op ?_
          refine h_op ?_
          refine h_var rfl ?_
          refine h_c ?_
          obtain ⟨p31, xs32, hv, hs33, hr34⟩ := Rep.st w (r_found.mono st.ex)
          cases hv
          obtain ⟨u35, hu, r36⟩ := RepL.at hr34 (i := 0) rfl
          refine h_ixT hs33 hu ?_
          cases r36
          refine h_c ?_
          refine h_I0 ?_
          refine h_nil ?_
          refine ⟨B26, x25, (decide (0 ≤ a_found.a)), w, rfl, (P.bind).mono (fun x37 P => ?_) (fun _ z => z)⟩
          refine fun v41 B38 H39 s40 r42 => ?_
          replace st := st.go s40 go0
          replace w := s40.ok
          cases r42
          refine h_bl ?_
          refine h_iteN (fun c1 => ?_) (fun c1 => ?_)
          · replace P := P.iteF c1
            refine h_ret ?_
            refine h_c ?_
            exact P.ok _ _ _ st (Rep.bl _)
          · replace P := P.iteT c1
            refine h_next ?_
            refine h_nx ?_
            refine h_set ?_
            refine h_call ?_
            refine h_cons ?_
            refine h_var rfl ?_
            refine h_nil ?_
            refine ⟨B38, (.ref p7), a_found, w, rfl, (r_found.mono st.ex), (P.bind).mono (fun x43 P => ?_) (fun _ z => z)⟩
            refine fun v47 B44 H45 s46 r48 => ?_
            replace st := st.go s46 go0
            replace w := s46.ok
            cases r48
            refine h_ret ?_
            refine h_and ?_
            refine h_call ?_
            refine h_cons ?_
            refine h_var rfl ?_
            refine h_nil ?_
            refine ⟨B44, .int x43, (enc (x43 : Int)), w, rfl, (Rep.int _), (P.bind).mono (fun x49 P => ?_) (fun _ z => z)⟩
            refine fun v53 B50 H51 s52 r54 => ?_
            replace st := st.go s52 go0
            replace w := s52.ok
            cases r54
            refine h_bl ?_
            refine h_ite (fun c1 => ?_) (fun c1 => ?_)
            · replace P := P.iteT c1
              refine h_chain ?_
              refine h_op ?_
              refine h_var rfl ?_
              refine h_op ?_
              refine h_var rfl ?_
              refine h_c ?_
              obtain ⟨p55, xs56, hv, hs57, hr58⟩ := Rep.st w (r_found.mono st.ex)
              cases hv
              obtain ⟨u59, hu, r60⟩ := RepL.at hr58 (i := 1) rfl
              refine h_ixT hs57 hu ?_
              cases r60
              obtain ⟨gd, P⟩ := P.guard
              refine h_I gd ?_
              refine h_op ?_
              refine h_var rfl ?_
              refine h_c ?_
              obtain ⟨p61, xs62, hv, hs63, hr64⟩ := Rep.st w (r_found.mono st.ex)
              cases hv
              obtain ⟨u65, hu, r66⟩ := RepL.at hr64 (i := 0) rfl
              refine h_ixT hs63 hu ?_
              cases r66
              refine h_I0 ?_
              refine h_bl ?_
              refine h_ite (fun c1 => ?_) (fun c1 => ?_)
              · replace P := P.iteT c1
                refine h_op ?_
                refine h_op ?_
                refine h_var rfl ?_
                refine h_c ?_
                refine h_I0 ?_
                refine h_op ?_
                refine h_var rfl ?_
                refine h_c ?_
                obtain ⟨p67, xs68, hv, hs69, hr70⟩ := Rep.st w (r_found.mono st.ex)
                cases hv
                obtain ⟨u71, hu, r72⟩ := RepL.at hr70 (i := 1) rfl
                refine h_ixT hs69 hu ?_
                cases r72
                obtain ⟨gd, P⟩ := P.guard
                refine h_I gd ?_
                refine h_I0 ?_
                exact P.ok _ _ _ st (Rep.bl _)
              · replace P := P.iteF c1
                exact P.ok _ _ _ st (Rep.bl _)
            · replace P := P.iteF c1
              exact P.ok _ _ _ st (Rep.bl _)
theorem ok_law {f : Addr} {fd : FuncData}  (F : Fun K "law" "law" s_law f fd) {tk_fraction_bottom : Tok} {f__law_number : Addr} {d__law_number : FuncData} (g__law_number : mg "_law_number" = some (.ref f__law_number)) (k__law_number : PySem.W.keepIn K (.ref f__law_number) = true) (b__law_number : L2.Binds K d__law_number ["_law_state"] []) (G__law_number : FnOk Pr wo K mg base CX0 3 f__law_number d__law_number ["_law_state"] (sp__law_number K)) {f_fraction : Addr} {d_fraction : FuncData} (g_fraction : mg "fraction" = some (.ref f_fraction)) (k_fraction : PySem.W.keepIn K (.ref f_fraction) = true) (b_fraction : L2.Binds K d_fraction ["top", "bottom"] []) (G_fraction : FnOk Pr wo K mg base (L2.CX Pr wo) 2 f_fraction d_fraction ["top", "bottom"] (sp_fraction K mg)) {f__law_written_otherwise : Addr} {d__law_written_otherwise : FuncData} (g__law_written_otherwise : mg "_law_written_otherwise" = some (.ref f__law_written_otherwise)) (k__law_written_otherwise : PySem.W.keepIn K (.ref f__law_written_otherwise) = true) (b__law_written_otherwise : L2.Binds K d__law_written_otherwise ["_law_found", "_law_state"] []) (G__law_written_otherwise : FnOk Pr wo K mg base CX0 2 f__law_written_otherwise d__law_written_otherwise ["_law_found", "_law_state"] (sp__law_written_otherwise K)) {f__law_cell_at : Addr} {d__law_cell_at : FuncData} (g__law_cell_at : mg "_law_cell_at" = some (.ref f__law_cell_at)) (k__law_cell_at : PySem.W.keepIn K (.ref f__law_cell_at) = true) (b__law_cell_at : L2.Binds K d__law_cell_at ["_law_script", "_law_k"] []) (G__law_cell_at : FnOk Pr wo K mg base CX0 1 f__law_cell_at d__law_cell_at ["_law_script", "_law_k"] (sp__law_cell_at K)) {f__law_digit : Addr} {d__law_digit : FuncData} (g__law_digit : mg "_law_digit" = some (.ref f__law_digit)) (k__law_digit : PySem.W.keepIn K (.ref f__law_digit) = true) (b__law_digit : L2.Binds K d__law_digit ["_law_state", "_law_base"] []) (G__law_digit : FnOk Pr wo K mg base CX0 1 f__law_digit d__law_digit ["_law_state", "_law_base"] (sp__law_digit K)) {f__law_refused : Addr} {d__law_refused : FuncData} (g__law_refused : mg "_law_refused" = some (.ref f__law_refused)) (k__law_refused : PySem.W.keepIn K (.ref f__law_refused) = true) (b__law_refused : L2.Binds K d__law_refused ["_law_first", "_law_second"] []) (G__law_refused : FnOk Pr wo K mg base CX0 3 f__law_refused d__law_refused ["_law_first", "_law_second"] (sp__law_refused K)) {f__law_right : Addr} {d__law_right : FuncData} (g__law_right : mg "_law_right" = some (.ref f__law_right)) (k__law_right : PySem.W.keepIn K (.ref f__law_right) = true) (b__law_right : L2.Binds K d__law_right ["_law_found", "_law_first", "_law_second"] []) (G__law_right : FnOk Pr wo K mg base CX0 4 f__law_right d__law_right ["_law_found", "_law_first", "_law_second"] (sp__law_right K)) {f__law_truth : Addr} {d__law_truth : FuncData} (g__law_truth : mg "_law_truth" = some (.ref f__law_truth)) (k__law_truth : PySem.W.keepIn K (.ref f__law_truth) = true) (b__law_truth : L2.Binds K d__law_truth ["_law_found", "_law_due"] []) (G__law_truth : FnOk Pr wo K mg base CX0 1 f__law_truth d__law_truth ["_law_found", "_law_due"] (sp__law_truth K)) {f_is_fraction : Addr} {d_is_fraction : FuncData} (g_is_fraction : mg "is_fraction" = some (.ref f_is_fraction)) (k_is_fraction : PySem.W.keepIn K (.ref f_is_fraction) = true) (b_is_fraction : L2.Binds K d_is_fraction ["thing"] []) (G_is_fraction : FnOk Pr wo K mg base CX0 2 f_is_fraction d_is_fraction ["thing"] (sp_is_fraction K)) {f_is_moment : Addr} {d_is_moment : FuncData} (g_is_moment : mg "is_moment" = some (.ref f_is_moment)) (k_is_moment : PySem.W.keepIn K (.ref f_is_moment) = true) (b_is_moment : L2.Binds K d_is_moment ["thing"] []) (G_is_moment : FnOk Pr wo K mg base CX0 3 f_is_moment d_is_moment ["thing"] (sp_is_moment K)) {f_less : Addr} {d_less : FuncData} (g_less : mg "less" = some (.ref f_less)) (k_less : PySem.W.keepIn K (.ref f_less) = true) (b_less : L2.Binds K d_less ["one", "other"] []) (G_less : FnOk Pr wo K mg base CX0 1 f_less d_less ["one", "other"] (sp_less K)) (kb_fraction_0_bottom_top : KBinds K d_fraction ["top", "bottom"] ["bottom", "top"] (fun us ws => match us, ws with | [], [w0, w1] => [w1, w0] | _, _ => []) (fun us ws => match us, ws with | [], [w0, w1] => [w1, w0] | _, _ => [])) (b_fraction_1 : L2.Binds K d_fraction ["top", "bottom"] [.int 1 tk_fraction_bottom]) : FnOk Pr wo K mg base CX0 5 f fd ["_law_script"] (sp_law K) := by
  refine F.ok sc_law (fun vs H Q E h => ?_) (fun cdv A outer s H0 vs Q E hr h => ?_)
  · obtain ⟨_, _, _, _, rfl, _⟩ := h; rfl
  · obtain ⟨B0, v_script, a_script, w, rfl, r_script, P⟩ := h
    have w0 := w
    have hu := hu_of hr
    have hu64 := hu64_of hr
    have hr1 : Room 1 _ := hr.mono (by decide)
    have hr2 : Room 2 _ := hr.mono (by decide)
    have hr3 : Room 3 _ := hr.mono (by decide)
    have hr4 : Room 4 _ := hr.mono (by decide)
    refine ⟨_, (pss_cons (ps_set (i := 1) sc_law.nd rfl (by first | exact Or.inl rfl | exact Or.inr rfl) (pe_lst (pa_cons (pe_call G__law_cell_at hr1 rfl g__law_cell_at k__law_cell_at b__law_cell_at .nil pass0 (pa_cons (pv 0) (pa_cons pe_int pa_nil))) pa_nil)))
      (pss_cons (ps_set (i := 2) sc_law.nd rfl (by first | exact Or.inl rfl | exact Or.inr rfl) (pe_call G__law_number hr3 rfl g__law_number k__law_number b__law_number .nil pass0 (pa_cons (pv 1) pa_nil)))
      (pss_cons (ps_set (i := 3) sc_law.nd rfl (by first | exact Or.inl rfl | exact Or.inr rfl) (pe_call G__law_number hr3 rfl g__law_number k__law_number b__law_number .nil pass0 (pa_cons (pe_lst (pa_cons (pe_call G__law_cell_at hr1 rfl g__law_cell_at k__law_cell_at b__law_cell_at .nil pass0 (pa_cons (pv 0) (pa_cons pe_int pa_nil))) pa_nil)) pa_nil)))
      (pss_cons (ps_if (pt_cmpR op_eq (pv 3) pe_int (nomark _)) (pss_cons (ps_if (pt_not (pt_val (pe_call G__law_refused hr3 rfl g__law_refused k__law_refused b__law_refused .nil pass0 (pa_cons (pv 2) (pa_cons pe_int pa_nil))))) (pss_one (ps_ret pe_bl)) pss_nil)
      (pss_one (ps_set (i := 3) sc_law.nd rfl (by first | exact Or.inl rfl | exact Or.inr rfl) (pe_op op_add pe_int (pe_call G__law_digit hr1 rfl g__law_digit k__law_digit b__law_digit .nil pass0 (pa_cons (pv 1) (pa_cons pe_int pa_nil))))))) pss_nil)
      (pss_cons (ps_set (i := 4) sc_law.nd rfl (by first | exact Or.inl rfl | exact Or.inr rfl) (pe_call G_fraction hr2 rfl g_fraction k_fraction b_fraction .nil passL (pa_cons (pv 2) (pa_cons (pv 3) pa_nil))))
      (pss_cons (ps_if (PW.pt (pw_or (pt_not (pt_val (pe_call G__law_right hr4 rfl g__law_right k__law_right b__law_right .nil pass0 (pa_cons (pv 4) (pa_cons (pv 2) (pa_cons (pv 3) pa_nil)))))) (pw_or1 (pt_cmpR (r := rNeD K) (op_neD hu64) (pe_callK0 G_fraction hr2 rfl g_fraction k_fraction kb_fraction_0_bottom_top passL (pk_cons (pv 3) (pk_cons (pv 2) pk_nil))) (pv 4) (nomark _))))) (pss_one (ps_ret pe_bl)) pss_nil)
      (pss_cons (ps_if (PW.pt (pw_or (pt_not (pt_val (pe_call G__law_right hr4 rfl g__law_right k__law_right b__law_right .nil pass0 (pa_cons (pe_call G_fraction hr2 rfl g_fraction k_fraction b_fraction_1 (.cons (show L2.RelV (.int 1) (.int 1 tk_fraction_bottom) from ⟨_, rfl⟩) .nil) passL (pa_cons (pv 2) pa_nil)) (pa_cons (pv 2) (pa_cons pe_int pa_nil)))))) (pw_or1 (pt_cmpR op_ne (pe_ix (r := rIxT K) ix_tup (pe_call G_fraction hr2 rfl g_fraction k_fraction b_fraction_1 (.cons (show L2.RelV (.int 1) (.int 1 tk_fraction_bottom) from ⟨_, rfl⟩) .nil) passL (pa_cons (pv 2) pa_nil)) pe_int (fun _ _ => rfl)) pe_int (nomark _))))) (pss_one (ps_ret pe_bl)) pss_nil)
      (pss_cons (ps_set (i := 5) sc_law.nd rfl (by first | exact Or.inl rfl | exact Or.inr rfl) (pe_call G_fraction hr2 rfl g_fraction k_fraction b_fraction .nil passL (pa_cons (pe_call G__law_number hr3 rfl g__law_number k__law_number b__law_number .nil pass0 (pa_cons (pe_lst (pa_cons (pe_call G__law_cell_at hr1 rfl g__law_cell_at k__law_cell_at b__law_cell_at .nil pass0 (pa_cons (pv 0) (pa_cons pe_int pa_nil))) pa_nil)) pa_nil)) (pa_cons (pe_op op_add pe_int (pe_call G__law_digit hr1 rfl g__law_digit k__law_digit b__law_digit .nil pass0 (pa_cons (pv 1) (pa_cons (pe_op op_pow pe_int pe_int) pa_nil)))) pa_nil))))
      (pss_cons (ps_for PassesOwn.never rfl (pi_list (pe_lst (pa_cons (pe_tup (pa_cons (pv 4) (pa_cons (pv 5) pa_nil))) (pa_cons (pe_tup (pa_cons (pv 5) (pa_cons (pv 4) pa_nil))) (pa_cons (pe_tup (pa_cons (pv 4) (pa_cons (pv 4) pa_nil))) pa_nil))))) (pg_tup rfl (pgs_cons (pg_name (i := 6) sc_law.nd rfl (by first | exact Or.inl rfl | exact Or.inr rfl)) (pgs_cons (pg_name (i := 7) sc_law.nd rfl (by first | exact Or.inl rfl | exact Or.inr rfl)) pgs_nil))) (pss_one (ps_if (pt_not (pt_val (pe_call G__law_truth hr1 rfl g__law_truth k__law_truth b__law_truth .nil pass0 (pa_cons (pe_call G_less hr1 rfl g_less k_less b_less .nil pass0 (pa_cons (pv 6) (pa_cons (pv 7) pa_nil))) (pa_cons (pe_cmpR op_lt (pe_op op_mulW (pe_ix (r := rIxT K) ix_tup (pv 6) pe_int (fun _ _ => rfl)) (pe_ix (r := rIxT K) ix_tup (pv 7) pe_int (fun _ _ => rfl))) (pe_op op_mulW (pe_ix (r := rIxT K) ix_tup (pv 7) pe_int (fun _ _ => rfl)) (pe_ix (r := rIxT K) ix_tup (pv 6) pe_int (fun _ _ => rfl))) (nomark _)) pa_nil))))) (pss_one (ps_ret pe_bl)) pss_nil)))
      (pss_cons (ps_set (i := 8) sc_law.nd rfl (by first | exact Or.inl rfl | exact Or.inr rfl) (pe_call G__law_written_otherwise hr2 rfl g__law_written_otherwise k__law_written_otherwise b__law_written_otherwise .nil pass0 (pa_cons (pv 4) (pa_cons (pv 1) pa_nil))))
      (pss_cons (ps_if (PW.pt (pw_or (pt_cmpR op_notBl (pe_call G_is_fraction hr2 rfl g_is_fraction k_is_fraction b_is_fraction .nil pass0 (pa_cons (pv 8) pa_nil)) pe_bl (nomark _)) (pw_or1 (pt_cmpR op_notBl (pe_call G_is_moment hr3 rfl g_is_moment k_is_moment b_is_moment .nil pass0 (pa_cons (pv 8) pa_nil)) pe_bl (nomark _))))) (pss_one (ps_ret pe_bl)) pss_nil)
      (pss_cons (ps_set (i := 9) sc_law.nd rfl (by first | exact Or.inl rfl | exact Or.inr rfl) (pe_ix (r := rIxL K) ix_list (pe_lst (pa_cons pe_non (pa_cons pe_bl (pa_cons pe_bl (pa_cons pe_str (pa_cons (pe_lst (pa_cons pe_int pa_nil)) (pa_cons (pe_tup (pa_cons pe_int (pa_cons pe_int pa_nil))) (pa_cons pe_dnewK (pa_cons pe_str pa_nil))))))))) (pe_call G__law_digit hr1 rfl g__law_digit k__law_digit b__law_digit .nil pass0 (pa_cons (pv 1) (pa_cons pe_int pa_nil))) (fun _ _ => rfl)))
      (pss_one (ps_ret (pe_and (pe_call G__law_refused hr3 rfl g__law_refused k__law_refused b__law_refused .nil pass0 (pa_cons (pv 9) (pa_cons (pv 3) pa_nil))) (pe_one (pe_call G__law_refused hr3 rfl g__law_refused k__law_refused b__law_refused .nil pass0 (pa_cons (pv 2) (pa_cons (pv 9) pa_nil))))))))))))))))))), ?_⟩
    unfold m_law at P
    have st := Stp.refl (W := []) w
    refine h_set ?_
    refine h_lst ?_
    refine h_cons ?_
    refine h_call ?_
    refine h_cons ?_
    refine h_var rfl ?_
    refine h_cons ?_
    refine h_c ?_
    refine h_nil ?_
    refine ⟨B0, v_script, a_script, 0, w, rfl, ((r_script.step st).w sub0), (P.bind).mono (fun x1 P => ?_) (fun _ z => z)⟩
    refine fun v5 B2 H3 s4 r6 => ?_
    replace st := st.go s4 go0
    replace w := s4.ok
    cases r6
    refine h_nil ?_
    refine h_newM w (ds := (([x1] : List Int)).map enc) (K := K) (.cons (Rep.int _) .nil) (fun p7 H8 hn11 s9 m10 => ?_) (by show 1 ≤ sizeLine; decide)
    have n12 := st.nn hn11
    replace st := st.go s9 go0
    replace w := s9.ok
    refine h_set ?_
    refine h_call ?_
    refine h_cons ?_
    refine h_var rfl ?_
    refine h_nil ?_
    refine ⟨B2, p7, ([x1] : List Int), w, rfl, m10, (P.bind).mono (fun x13 P => ?_) (fun _ z => z)⟩
    refine fun v17 B14 H15 s16 m10 r18 => ?_
    replace st := st.go s16 (go1 (.inr n12))
    replace w := s16.ok
    cases r18
    refine h_set ?_
    refine h_call ?_
    refine h_cons ?_
    refine h_lst ?_
    refine h_cons ?_
    refine h_call ?_
    refine h_cons ?_
    refine h_var rfl ?_
    refine h_cons ?_
    refine h_c ?_
    refine h_nil ?_
    refine ⟨B14, v_script, a_script, 1, w, rfl, ((r_script.step st).w sub0), (P.bind).mono (fun x19 P => ?_) (fun _ z => z)⟩
    refine fun v23 B20 H21 s22 r24 => ?_
    replace m10 := m10.step s22 nm0
    replace st := st.go s22 go0
    replace w := s22.ok
    cases r24
    refine h_nil ?_
    refine h_newM w (ds := (([x19] : List Int)).map enc) (K := K) (.cons (Rep.int _) .nil) (fun p25 H26 hn29 s27 m28 => ?_) (by show 1 ≤ sizeLine; decide)
    have n30 := st.nn hn29
    have ne31 := Mu.ne m10 hn29
    replace m10 := m10.step s27 nm0
    replace st := st.go s27 go0
    replace w := s27.ok
    refine h_nil ?_
    refine ⟨B20, p25, ([x19] : List Int), w, rfl, m28, (P.bind).mono (fun x32 P => ?_) (fun _ z => z)⟩
    refine fun v36 B33 H34 s35 m28 r37 => ?_
    replace m10 := m10.step s35 (nm1 ne31)
    replace st := st.go s35 (go1 (.inr n30))
    replace w := s35.ok
    cases r37
    have wj39 := w
    have sj38 := Stp.refl (W := [p7]) w
    refine h_joinF P (fun (a : Int × (List Int)) σ' H' => ∃ (B' : Hp), Stp [p7] B33 H34 B' H' ∧ σ' = [some (v_script), some ((.ref p7)), some (.int x13.1), some (.int a.1), none, none, none, none, none, none] ∧ Mu K B' H' p7 (a.2.map enc)) (fun N Tkr41 kk40 kr41 P => h_if ?_) ?_
    · skip
      refine h_test ?_
      refine h_op ?_
      refine h_var rfl ?_
      refine h_c ?_
      refine h_eqI ?_
      refine h_bl ?_
      refine h_ite (fun c1 => ?_) (fun c1 => ?_)
      · replace P := P.iteT c1
        refine h_seq <| h_if ?_
        refine h_tnot ?_
        refine h_tB ?_
        refine h_call ?_
        refine h_cons ?_
        refine h_var rfl ?_
        refine h_cons ?_
        refine h_c ?_
        refine h_nil ?_
        refine ⟨B33, .int x13.1, (enc (x13.1 : Int)), .int 0, (enc (0 : Int)), w, rfl, (Rep.int _), (Rep.int _), (P.bind).mono (fun x42 P => ?_) (fun _ z => z)⟩
        refine fun v46 B43 H44 s45 r47 => ?_
        replace m10 := m10.step s45 nm0
        replace st := st.go s45 go0
        replace sj38 := sj38.go s45 go0
        replace w := s45.ok
        cases r47
        refine h_bl ?_
        refine h_iteN (fun c1 => ?_) (fun c1 => ?_)
        · replace P := P.iteF c1
          refine h_ret ?_
          refine h_c ?_
          exact (kr41 _ P.ok) _ _ _ st (Rep.bl _)
        · replace P := P.iteT c1
          refine h_next ?_
          refine h_nx ?_
          refine h_set1 ?_
          refine h_op ?_
          refine h_c ?_
          refine h_call ?_
          refine h_cons ?_
          refine h_var rfl ?_
          refine h_cons ?_
          refine h_c ?_
          refine h_nil ?_
          refine ⟨B43, p7, x13.2, 50, w, rfl, m10, (P.bind).mono (fun x48 P => ?_) (fun _ z => z)⟩
          refine fun v52 B49 H50 s51 m10 r53 => ?_
          replace st := st.go s51 (go1 (.inr n12))
          replace sj38 := sj38.go s51 (go1 (.inl (by simp)))
          replace w := s51.ok
          cases r53
          refine h_I0 ?_
          replace P := P.lt
          generalize hx : (1 + x48.1) = x54 at P ⊢
          refine h_nx ?_
          exact kk40 (x54, x48.2) _ _ ⟨_, sj38, rfl, m10⟩ P.ok
      · replace P := P.iteF c1
        refine h_next ?_
        refine h_nx ?_
        exact kk40 (x32.1, x13.2) _ _ ⟨_, sj38, rfl, m10⟩ P.ok
    rintro a55 _ H57 ⟨B56, s58, rfl, m10⟩ P
    replace st := st.go s58 (go1 (.inr n12))
    replace w := s58.ok
    refine h_set ?_
    refine h_call ?_
    refine h_cons ?_
    refine h_var rfl ?_
    refine h_cons ?_
    refine h_var rfl ?_
    refine h_nil ?_
    refine ⟨B56, .int x13.1, (enc (x13.1 : Int)), .int a55.1, (enc (a55.1 : Int)), w, rfl, (Rep.int _), (Rep.int _), (P.bind.noErr).mono (fun x59 P => ?_) (fun _ z => z.elim)⟩
    refine fun v63 B60 H61 s62 r64 => ?_
    replace m10 := m10.step s62 nm0
    replace st := st.go s62 go0
    replace w := s62.ok
    refine h_seq <| h_if ?_
    refine h_tor ?_
    refine h_tnot ?_
    refine h_tB ?_
    refine h_call ?_
    refine h_cons ?_
    refine h_var rfl ?_
    refine h_cons ?_
    refine h_var rfl ?_
    refine h_cons ?_
    refine h_var rfl ?_
    refine h_nil ?_
    refine ⟨B60, v63, x59, x13.1, a55.1, w, rfl, r64, (P.bind).mono (fun x65 P => ?_) (fun _ z => z)⟩
    refine fun v69 B66 H67 s68 r70 => ?_
    replace m10 := m10.step s68 nm0
    replace r64 := r64.mono s68.ex
    replace st := st.go s68 go0
    replace w := s68.ok
    cases r70
    refine h_bl ?_
    refine h_iteN (fun c1 => ?_) (fun c1 => ?_)
    · replace P := P.iteF c1
      refine h_iteT ?_
      refine h_ret ?_
      refine h_c ?_
      exact P.ok _ _ _ st (Rep.bl _)
    · replace P := P.iteT c1
      refine h_test ?_
      refine h_op ?_
      refine h_callK0 ?_
      refine h_cons ?_
      refine h_var rfl ?_
      refine h_cons ?_
      refine h_var rfl ?_
      refine h_nil ?_
      refine ⟨B66, .int x13.1, (enc (x13.1 : Int)), .int a55.1, (enc (a55.1 : Int)), w, rfl, (Rep.int _), (Rep.int _), (P.bind.noErr).mono (fun x71 P => ?_) (fun _ z => z.elim)⟩
      refine fun v75 B72 H73 s74 r76 => ?_
      replace m10 := m10.step s74 nm0
      replace r64 := r64.mono s74.ex
      replace st := st.go s74 go0
      replace w := s74.ok
      refine h_var rfl ?_
      obtain ⟨gd, P⟩ := P.guard
      refine h_neD (d := (enc x71)) (e := (enc x59)) w r76 r64 gd ?_
      refine h_bl ?_
      refine h_ite (fun c1 => ?_) (fun c1 => ?_)
      · replace P := P.iteT c1
        refine h_ret ?_
        refine h_c ?_
        exact P.ok _ _ _ st (Rep.bl _)
      · replace P := P.iteF c1
        refine h_next ?_
        refine h_nx ?_
        refine h_seq <| h_if ?_
        refine h_tor ?_
        refine h_tnot ?_
        refine h_tB ?_
        refine h_call ?_
        refine h_cons ?_
        refine h_call ?_
        refine h_cons ?_
        refine h_var rfl ?_
        refine h_nil ?_
        refine ⟨B72, .int x13.1, (enc (x13.1 : Int)), .int 1, (enc ((1 : Int) : Int)), w, rfl, (Rep.int _), (Rep.int _), (P.bind.noErr).mono (fun x77 P => ?_) (fun _ z => z.elim)⟩
        refine fun v81 B78 H79 s80 r82 => ?_
        replace m10 := m10.step s80 nm0
        replace r64 := r64.mono s80.ex
        replace st := st.go s80 go0
        replace w := s80.ok
        refine h_cons ?_
        refine h_var rfl ?_
        refine h_cons ?_
        refine h_c ?_
        refine h_nil ?_
        refine ⟨B78, v81, x77, x13.1, 1, w, rfl, r82, (P.bind).mono (fun x83 P => ?_) (fun _ z => z)⟩
        refine fun v87 B84 H85 s86 r88 => ?_
        replace m10 := m10.step s86 nm0
        replace r64 := r64.mono s86.ex
        replace r82 := r82.mono s86.ex
        replace st := st.go s86 go0
        replace w := s86.ok
        cases r88
        refine h_bl ?_
        refine h_iteN (fun c1 => ?_) (fun c1 => ?_)
        · replace P := P.iteF c1
          refine h_iteT ?_
          refine h_ret ?_
          refine h_c ?_
          exact P.ok _ _ _ st (Rep.bl _)
        · replace P := P.iteT c1
          refine h_test ?_
          refine h_op ?_
          refine h_op ?_
          refine h_call ?_
          refine h_cons ?_
          refine h_var rfl ?_
          refine h_nil ?_
          refine ⟨B84, .int x13.1, (enc (x13.1 : Int)), .int 1, (enc ((1 : Int) : Int)), w, rfl, (Rep.int _), (Rep.int _), (P.bind.noErr).mono (fun x89 P => ?_) (fun _ z => z.elim)⟩
          refine fun v93 B90 H91 s92 r94 => ?_
          replace m10 := m10.step s92 nm0
          replace r64 := r64.mono s92.ex
          replace st := st.go s92 go0
          replace w := s92.ok
          refine h_c ?_
          obtain ⟨p95, xs96, rfl, hs97, hr98⟩ := Rep.st w r94
          obtain ⟨u99, hu, r100⟩ := RepL.at hr98 (i := 1) rfl
          refine h_ixT hs97 hu ?_
          cases r100
          refine h_c ?_
          refine h_neI ?_
          refine h_bl ?_
          refine h_ite (fun c1 => ?_) (fun c1 => ?_)
          · replace P := P.iteT c1
            refine h_ret ?_
            refine h_c ?_
            exact P.ok _ _ _ st (Rep.bl _)
          · replace P := P.iteF c1
            refine h_next ?_
            refine h_nx ?_
            refine h_set ?_
            refine h_call ?_
            refine h_cons ?_
            refine h_call ?_
            refine h_cons ?_
            refine h_lst ?_
            refine h_cons ?_
            refine h_call ?_
            refine h_cons ?_
            refine h_var rfl ?_
            refine h_cons ?_
            refine h_c ?_
            refine h_nil ?_
            refine ⟨B90, v_script, a_script, 2, w, rfl, ((r_script.step st).w sub0), (P.bind).mono (fun x101 P => ?_) (fun _ z => z)⟩
            refine fun v105 B102 H103 s104 r106 => ?_
            replace m10 := m10.step s104 nm0
            replace r64 := r64.mono s104.ex
            replace st := st.go s104 go0
            replace w := s104.ok
            cases r106
            refine h_nil ?_
            refine h_newM w (ds := (([x101] : List Int)).map enc) (K := K) (.cons (Rep.int _) .nil) (fun p107 H108 hn111 s109 m110 => ?_) (by show 1 ≤ sizeLine; decide)
            have n112 := st.nn hn111
            have ne113 := Mu.ne m10 hn111
            replace m10 := m10.step s109 nm0
            replace r64 := r64.mono s109.ex
            replace st := st.go s109 go0
            replace w := s109.ok
            refine h_nil ?_
            refine ⟨B102, p107, ([x101] : List Int), w, rfl, m110, (P.bind).mono (fun x114 P => ?_) (fun _ z => z)⟩
            refine fun v118 B115 H116 s117 m110 r119 => ?_
            replace m10 := m10.step s117 (nm1 ne113)
            replace r64 := r64.mono s117.ex
            replace st := st.go s117 (go1 (.inr n112))
            replace w := s117.ok
            cases r119
            refine h_cons ?_
            refine h_op ?_
            refine h_c ?_
            refine h_call ?_
            refine h_cons ?_
            refine h_var rfl ?_
            refine h_cons ?_
            refine h_op (h_c (h_c (h_pow (k := 1000000) (by decide +kernel) (by decide +kernel) ?_)))
            refine h_nil ?_
            refine ⟨B115, p7, a55.2, 1000000, w, rfl, m10, (P.bind).mono (fun x120 P => ?_) (fun _ z => z)⟩
            refine fun v124 B121 H122 s123 m10 r125 => ?_
            replace r64 := r64.mono s123.ex
            replace st := st.go s123 (go1 (.inr n12))
            replace w := s123.ok
            cases r125
            refine h_I0 ?_
            refine h_nil ?_
            refine ⟨B121, .int x114.1, (enc (x114.1 : Int)), .int (1 + x120.1), (enc ((1 + x120.1) : Int)), w, rfl, (Rep.int _), (Rep.int _), (P.bind.noErr).mono (fun x126 P => ?_) (fun _ z => z.elim)⟩
            refine fun v130 B127 H128 s129 r131 => ?_
            replace m10 := m10.step s129 nm0
            replace r64 := r64.mono s129.ex
            replace st := st.go s129 go0
            replace w := s129.ok
            refine h_seq ?_
            refine h_forE ?_
            refine h_lst ?_
            refine h_cons ?_
            refine h_tup ?_
            refine h_cons ?_
            refine h_var rfl ?_
            refine h_cons ?_
            refine h_var rfl ?_
            refine h_nil ?_
            refine h_newT w (K := K) (.cons r64 (.cons r131 .nil)) (fun p132 B133 H134 s135 r136 => ?_) (by show 2 ≤ sizeLine; decide)
            replace m10 := m10.step s135 nm0
            replace r64 := r64.mono s135.ex
            replace r131 := r131.mono s135.ex
            replace st := st.go s135 go0
            replace w := s135.ok
            replace r136 : Rep K B133 (.ref p132) (enc (⟨x59, x126⟩ : (Tp2 (Tp2 Int Int) (Tp2 Int Int)))) := r136
            refine h_cons ?_
            refine h_tup ?_
            refine h_cons ?_
            refine h_var rfl ?_
            refine h_cons ?_
            refine h_var rfl ?_
            refine h_nil ?_
            refine h_newT w (K := K) (.cons r131 (.cons r64 .nil)) (fun p137 B138 H139 s140 r141 => ?_) (by show 2 ≤ sizeLine; decide)
            replace m10 := m10.step s140 nm0
            replace r64 := r64.mono s140.ex
            replace r131 := r131.mono s140.ex
            replace r136 := r136.mono s140.ex
            replace st := st.go s140 go0
            replace w := s140.ok
            replace r141 : Rep K B138 (.ref p137) (enc (⟨x126, x59⟩ : (Tp2 (Tp2 Int Int) (Tp2 Int Int)))) := r141
            refine h_cons ?_
            refine h_tup ?_
            refine h_cons ?_
            refine h_var rfl ?_
            refine h_cons ?_
            refine h_var rfl ?_
            refine h_nil ?_
            refine h_newT w (K := K) (.cons r64 (.cons r64 .nil)) (fun p142 B143 H144 s145 r146 => ?_) (by show 2 ≤ sizeLine; decide)
            replace m10 := m10.step s145 nm0
            replace r64 := r64.mono s145.ex
            replace r131 := r131.mono s145.ex
            replace r136 := r136.mono s145.ex
            replace r141 := r141.mono s145.ex
            replace st := st.go s145 go0
            replace w := s145.ok
            replace r146 : Rep K B143 (.ref p142) (enc (⟨x59, x59⟩ : (Tp2 (Tp2 Int Int) (Tp2 Int Int)))) := r146
            refine h_nil ?_
            refine h_newL w (ds := (([(⟨x59, x126⟩ : (Tp2 (Tp2 Int Int) (Tp2 Int Int))), (⟨x126, x59⟩ : (Tp2 (Tp2 Int Int) (Tp2 Int Int))), (⟨x59, x59⟩ : (Tp2 (Tp2 Int Int) (Tp2 Int Int)))] : List (Tp2 (Tp2 Int Int) (Tp2 Int Int)))).map enc) (K := K) (.cons r136 (.cons r141 (.cons r146 .nil))) (fun p147 B148 H149 s150 r151 => ?_) (by show 3 ≤ sizeLine; decide)
            replace m10 := m10.step s150 nm0
            replace r64 := r64.mono s150.ex
            replace r131 := r131.mono s150.ex
            replace st := st.go s150 go0
            replace w := s150.ok
            replace r151 : Rep K B148 (.ref p147) (enc ([(⟨x59, x126⟩ : (Tp2 (Tp2 Int Int) (Tp2 Int Int))), (⟨x126, x59⟩ : (Tp2 (Tp2 Int Int) (Tp2 Int Int))), (⟨x59, x59⟩ : (Tp2 (Tp2 Int Int) (Tp2 Int Int)))] : List (Tp2 (Tp2 Int Int) (Tp2 Int Int)))) := r151
            obtain ⟨p152, xs153, hv, hb154, hr155⟩ := Rep.sqB r151
            cases hv
            have wj157 := w
            have sj156 := Stp.refl (W := []) w
            refine h_forL P (w.l hb154) hr155 (fun (a : Unit) σ' H' => ∃ (B' : Hp) (o__law_one : Option V) (o__law_two : Option V), Stp [] B148 H149 B' H' ∧ σ' = [some (v_script), some ((.ref p7)), some (.int x13.1), some (.int a55.1), some (v63), some (v130), o__law_one, o__law_two, none, none]) ⟨_, _, _, sj156, rfl⟩ (fun _ _ _ j => ?_) ?_ ?_
            · obtain ⟨B167, o170, o171, s169, rfl⟩ := j
              exact s169.ok.l (s169.ex.l hb154)
            · rintro N158 T159 x164 v165 a163 _ H168 ⟨B167, o170, o171, s169, rfl⟩ r166 kk160 kr161 kb162 P
              replace m10 := m10.step s169 nm0
              replace r64 := r64.mono s169.ex
              replace r131 := r131.mono s169.ex
              replace st := st.go s169 go0
              replace w := s169.ok
              have sj156 := s169
              replace r166 := r166.mono sj156.ex
              obtain ⟨p172, xs173, rfl, hs174, hr175⟩ := Rep.st w r166
              obtain ⟨u176, u178, rfl, r177, r179⟩ := RepL.open2 hr175
              refine h_tupG hs174 rfl ?_
              refine h_gcons ?_
              refine h_gname ?_
              refine h_gcons ?_
              refine h_gname ?_
              refine h_gnil ?_
              refine h_if ?_
              refine h_tnot ?_
              refine h_tB ?_
              refine h_call ?_
              refine h_cons ?_
              refine h_call ?_
              refine h_cons ?_
              refine h_var rfl ?_
              refine h_cons ?_
              refine h_var rfl ?_
              refine h_nil ?_
              refine ⟨B167, u176, x164.a, u178, x164.b, w, rfl, r177, r179, (P.bind).mono (fun x180 P => ?_) (fun _ z => z)⟩
              refine fun v184 B181 H182 s183 r185 => ?_
              replace m10 := m10.step s183 nm0
              replace r64 := r64.mono s183.ex
              replace r131 := r131.mono s183.ex
              replace r177 := r177.mono s183.ex
              replace r179 := r179.mono s183.ex
              replace st := st.go s183 go0
              replace sj156 := sj156.go s183 go0
              replace w := s183.ok
              cases r185
              refine h_cons ?_
              refine h_op ?_
              refine h_op ?_
              refine h_op ?_
              refine h_var rfl ?_
              refine h_c ?_
              obtain ⟨p186, xs187, rfl, hs188, hr189⟩ := Rep.st w r177
              obtain ⟨u190, hu, r191⟩ := RepL.at hr189 (i := 0) rfl
              refine h_ixT hs188 hu ?_
              cases r191
              refine h_op ?_
              refine h_var rfl ?_
              refine h_c ?_
              obtain ⟨p192, xs193, rfl, hs194, hr195⟩ := Rep.st w r179
              obtain ⟨u196, hu, r197⟩ := RepL.at hr195 (i := 1) rfl
              refine h_ixT hs194 hu ?_
              cases r197
              obtain ⟨gd, P⟩ := P.guard
              refine h_I gd ?_
              refine h_op ?_
              refine h_op ?_
              refine h_var rfl ?_
              refine h_c ?_
              obtain ⟨p198, xs199, hv, hs200, hr201⟩ := Rep.st w r179
              cases hv
              obtain ⟨u202, hu, r203⟩ := RepL.at hr201 (i := 0) rfl
              refine h_ixT hs200 hu ?_
              cases r203
              refine h_op ?_
              refine h_var rfl ?_
              refine h_c ?_
              obtain ⟨p204, xs205, hv, hs206, hr207⟩ := Rep.st w r177
              cases hv
              obtain ⟨u208, hu, r209⟩ := RepL.at hr207 (i := 1) rfl
              refine h_ixT hs206 hu ?_
              cases r209
              obtain ⟨gd, P⟩ := P.guard
              refine h_I gd ?_
              refine h_I0 ?_
              refine h_nil ?_
              refine ⟨B181, x180, (decide ((x164.a.a * x164.b.b) < (x164.b.a * x164.a.b))), w, rfl, (P.bind).mono (fun x210 P => ?_) (fun _ z => z)⟩
              refine fun v214 B211 H212 s213 r215 => ?_
              replace m10 := m10.step s213 nm0
              replace r64 := r64.mono s213.ex
              replace r131 := r131.mono s213.ex
              replace r177 := r177.mono s213.ex
              replace r179 := r179.mono s213.ex
              replace st := st.go s213 go0
              replace sj156 := sj156.go s213 go0
              replace w := s213.ok
              cases r215
              refine h_bl ?_
              refine h_iteN (fun c1 => ?_) (fun c1 => ?_)
              · replace P := P.iteF c1
                refine h_ret ?_
                refine h_c ?_
                exact (kr161 _ P.ok) _ _ _ st (Rep.bl _)
              · replace P := P.iteT c1
                refine h_next ?_
                refine h_nx ?_
                exact kk160 () _ _ ⟨_, _, _, sj156, rfl⟩ P.ok
            · rintro a216 _ H218 ⟨B217, o220, o221, s219, rfl⟩ P
              replace m10 := m10.step s219 nm0
              replace r64 := r64.mono s219.ex
              replace r131 := r131.mono s219.ex
              replace st := st.go s219 go0
              replace w := s219.ok
              refine h_nx ?_
              refine h_set ?_
              refine h_call ?_
              refine h_cons ?_
              refine h_var rfl ?_
              refine h_cons ?_
              refine h_var rfl ?_
              refine h_nil ?_
              refine ⟨B217, v63, x59, p7, x120.2, w, rfl, r64, m10, (P.bind).mono (fun x222 P => ?_) (fun _ z => z)⟩
              refine fun v226 B223 H224 s225 m10 r227 => ?_
              replace r64 := r64.mono s225.ex
              replace r131 := r131.mono s225.ex
              replace st := st.go s225 (go1 (.inr n12))
              replace w := s225.ok
              refine h_seq <| h_if ?_
              refine h_tor ?_
              refine h_test ?_
              refine h_op ?_
              refine h_call ?_
              refine h_cons ?_
              refine h_var rfl ?_
              refine h_nil ?_
              refine ⟨B223, v226, x222.1, w, rfl, r227, (P.bind).mono (fun x228 P => ?_) (fun _ z => z)⟩
              refine fun v232 B229 H230 s231 r233 => ?_
              replace m10 := m10.step s231 nm0
              replace r64 := r64.mono s231.ex
              replace r131 := r131.mono s231.ex
              replace r227 := r227.mono s231.ex
              replace st := st.go s231 go0
              replace w := s231.ok
              cases r233
              refine h_c ?_
              refine h_isnotB ?_
              refine h_bl ?_
              refine h_ite (fun c1 => ?_) (fun c1 => ?_)
              · replace P := P.iteT c1
                refine h_iteT ?_
                refine h_ret ?_
                refine h_c ?_
                exact P.ok _ _ _ st (Rep.bl _)
              · replace P := P.iteF c1
                refine h_test ?_
                refine h_op ?_
                refine h_call ?_
                refine h_cons ?_
                refine h_var rfl ?_
                refine h_nil ?_
                refine ⟨B229, v226, x222.1, w, rfl, r227, (P.bind).mono (fun x234 P => ?_) (fun _ z => z)⟩
                refine fun v238 B235 H236 s237 r239 => ?_
                replace m10 := m10.step s237 nm0
                replace r64 := r64.mono s237.ex
                replace r131 := r131.mono s237.ex
                replace r227 := r227.mono s237.ex
                replace st := st.go s237 go0
                replace w := s237.ok
                cases r239
                refine h_c ?_
                refine h_isnotB ?_
                refine h_bl ?_
                refine h_ite (fun c1 => ?_) (fun c1 => ?_)
                · replace P := P.iteT c1
                  refine h_ret ?_
                  refine h_c ?_
                  exact P.ok _ _ _ st (Rep.bl _)
                · replace P := P.iteF c1
                  refine h_next ?_
                  refine h_nx ?_
                  refine h_set ?_
                  refine h_op ?_
                  refine h_lst ?_
                  refine h_cons ?_
                  refine h_c ?_
                  refine h_cons ?_
                  refine h_c ?_
                  refine h_cons ?_
                  refine h_c ?_
                  refine h_cons ?_
                  refine h_c ?_
                  refine h_cons ?_
                  refine h_lst ?_
                  refine h_cons ?_
                  refine h_c ?_
                  refine h_nil ?_
                  refine h_newL w (ds := (([1] : List Int)).map enc) (K := K) (.cons (Rep.int _) .nil) (fun p240 B241 H242 s243 r244 => ?_) (by show 1 ≤ sizeLine; decide)
                  replace m10 := m10.step s243 nm0
                  replace r64 := r64.mono s243.ex
                  replace r131 := r131.mono s243.ex
                  replace r227 := r227.mono s243.ex
                  replace st := st.go s243 go0
                  replace w := s243.ok
                  replace r244 : Rep K B241 (.ref p240) (enc ([1] : List Int)) := r244
                  refine h_cons ?_
                  refine h_tup ?_
                  refine h_cons ?_
                  refine h_c ?_
                  refine h_cons ?_
                  refine h_c ?_
                  refine h_nil ?_
                  refine h_newT w (K := K) (.cons (Rep.int _) (.cons (Rep.int _) .nil)) (fun p245 B246 H247 s248 r249 => ?_) (by show 2 ≤ sizeLine; decide)
                  replace m10 := m10.step s248 nm0
                  replace r64 := r64.mono s248.ex
                  replace r131 := r131.mono s248.ex
                  replace r227 := r227.mono s248.ex
                  replace r244 := r244.mono s248.ex
                  replace st := st.go s248 go0
                  replace w := s248.ok
                  replace r249 : Rep K B246 (.ref p245) (enc (⟨1, 1⟩ : (Tp2 Int Int))) := r249
                  refine h_cons ?_
                  refine h_dnew w (K := K) (fun p250 B251 H252 s253 r254 => ?_)
                  replace m10 := m10.step s253 nm0
                  replace r64 := r64.mono s253.ex
                  replace r131 := r131.mono s253.ex
                  replace r227 := r227.mono s253.ex
                  replace r244 := r244.mono s253.ex
                  replace r249 := r249.mono s253.ex
                  replace st := st.go s253 go0
                  replace w := s253.ok
                  refine h_cons ?_
                  refine h_c ?_
                  refine h_nil ?_
                  refine h_newL w (ds := (([(enc ()), (enc true), (enc false), (enc ("1" : Str)), (enc ([1] : List Int)), (enc (⟨1, 1⟩ : (Tp2 Int Int))), (.dic [] : D), (enc ("" : Str))] : List D)).map enc) (K := K) (.cons Rep.non (.cons (Rep.bl _) (.cons (Rep.bl _) (.cons (Rep.str _) (.cons r244 (.cons r249 (.cons r254 (.cons (Rep.str _) .nil)))))))) (fun p255 B256 H257 s258 r259 => ?_) (by show 8 ≤ sizeLine; decide)
                  replace m10 := m10.step s258 nm0
                  replace r64 := r64.mono s258.ex
                  replace r131 := r131.mono s258.ex
                  replace r227 := r227.mono s258.ex
                  replace st := st.go s258 go0
                  replace w := s258.ok
                  replace r259 : Rep K B256 (.ref p255) (enc ([(enc ()), (enc true), (enc false), (enc ("1" : Str)), (enc ([1] : List Int)), (enc (⟨1, 1⟩ : (Tp2 Int Int))), (.dic [] : D), (enc ("" : Str))] : List D)) := r259
                  refine h_call ?_
                  refine h_cons ?_
                  refine h_var rfl ?_
                  refine h_cons ?_
                  refine h_c ?_
                  refine h_nil ?_
                  refine ⟨B256, p7, x222.2, 8, w, rfl, m10, (P.bind).mono (fun x260 P => ?_) (fun _ z => z)⟩
                  refine fun v264 B261 H262 s263 m10 r265 => ?_
                  replace r64 := r64.mono s263.ex
                  replace r131 := r131.mono s263.ex
                  replace r227 := r227.mono s263.ex
                  replace r259 := r259.mono s263.ex
                  replace st := st.go s263 (go1 (.inr n12))
                  replace w := s263.ok
                  cases r265
                  obtain ⟨p266, xs267, hv, hs268, hr269⟩ := Rep.sq w r259
                  cases hv
                  obtain ⟨x270, hx271, P⟩ := P.ix
                  obtain ⟨u272, hu, r273⟩ := RepL.atE hr269 hx271
                  refine h_ixL hs268 hu ?_
                  refine h_ret ?_
                  refine h_and ?_
                  refine h_call ?_
                  refine h_cons ?_
                  refine h_var rfl ?_
                  refine h_cons ?_
                  refine h_var rfl ?_
                  refine h_nil ?_
                  refine ⟨B261, u272, x270, .int a55.1, (enc (a55.1 : Int)), w, rfl, r273, (Rep.int _), (P.bind).mono (fun x274 P => ?_) (fun _ z => z)⟩
                  refine fun v278 B275 H276 s277 r279 => ?_
                  replace m10 := m10.step s277 nm0
                  replace r64 := r64.mono s277.ex
                  replace r131 := r131.mono s277.ex
                  replace r227 := r227.mono s277.ex
                  replace r273 := r273.mono s277.ex
                  replace st := st.go s277 go0
                  replace w := s277.ok
                  cases r279
                  refine h_bl ?_
                  refine h_ite (fun c1 => ?_) (fun c1 => ?_)
                  · replace P := P.iteT c1
                    refine h_call ?_
                    refine h_cons ?_
                    refine h_var rfl ?_
                    refine h_cons ?_
                    refine h_var rfl ?_
                    refine h_nil ?_
                    refine ⟨B275, .int x13.1, (enc (x13.1 : Int)), u272, x270, w, rfl, (Rep.int _), r273, (P.bind).mono (fun x280 P => ?_) (fun _ z => z)⟩
                    refine fun v284 B281 H282 s283 r285 => ?_
                    replace m10 := m10.step s283 nm0
                    replace r64 := r64.mono s283.ex
                    replace r131 := r131.mono s283.ex
                    replace r227 := r227.mono s283.ex
                    replace r273 := r273.mono s283.ex
                    replace st := st.go s283 go0
                    replace w := s283.ok
                    cases r285
                    exact P.ok _ _ _ st (Rep.bl _)
                  · replace P := P.iteF c1
                    exact P.ok _ _ _ st (Rep.bl _)
end
end A
set_option Elab.async false
set_option linter.all false
set_option maxRecDepth 100000
set_option maxHeartbeats 2000000
namespace Y
open PySem PySem.Spec PyProof.Rows L2
open Enc (enc)
/-! # plain mathematics over mirrors -/
/-- m gives a value, and φ of it -/
def Ok {α : Type} (m : Res α) (φ : α → Prop) : Prop := ∃ a, m = .ok a ∧ φ a
section
variable {α β : Type} {m : Res α} {φ φ' : α → Prop} {k : α → Res β} {ψ : β → Prop} {a : α} {c : Bool} {i : Int} {l : List α}
theorem Ok.pure (h : φ a) : Ok (.ok a) φ := ⟨a, rfl, h⟩
theorem Ok.bind (h : Ok m φ) (hk : ∀ a, φ a → Ok (k a) ψ) : Ok (m.bind k) ψ := by
  obtain ⟨a, e, p⟩ := h
  rw [e]
  exact hk a p
theorem Ok.bindE (e : m = .ok a) (h : Ok (k a) ψ) : Ok (m.bind k) ψ := by rw [e]; exact h
theorem Ok.mono (h : Ok m φ) (hk : ∀ a, φ a → φ' a) : Ok m φ' := by
  obtain ⟨a, e, p⟩ := h
  exact ⟨a, e, hk a p⟩
theorem Ok.ite {m m' : Res α} (h1 : c = true → Ok m φ) (h2 : c = false → Ok m' φ) : Ok (if c = true then m else m') φ := by
  cases c
  · rw [if_neg Bool.false_ne_true]; exact h2 rfl
  · rw [if_pos rfl]; exact h1 rfl
theorem Ok.iteT {m m' : Res α} (hc : c = true) (h : Ok m φ) : Ok (if c = true then m else m') φ := by
  rw [if_pos hc]; exact h
theorem Ok.iteF {m m' : Res α} (hc : c = false) (h : Ok m' φ) : Ok (if c = true then m else m') φ := by
  rw [hc, if_neg Bool.false_ne_true]; exact h
theorem Ok.guard {p : Prop} [Decidable p] (hp : p) (h : Ok m φ) : Ok (guardR p m) φ := by
  unfold guardR; rw [if_pos hp]; exact h
theorem Ok.lt {d : α} (h : Ok (k d) ψ) : Ok (Y.lt d k) ψ := h
theorem Ok.noErr (h : Ok m φ) : Ok m.noErr φ := by
  obtain ⟨a, e, p⟩ := h
  exact ⟨a, by rw [e]; rfl, p⟩
theorem atI_in (h0 : 0 ≤ i) (h1 : i < (l.length : Int)) : ∃ x, atI l i = some x ∧ l[i.toNat]? = some x ∧ x ∈ l := by
  have h2 : i.toNat < l.length := by omega
  have e : ixN l.length i = some i.toNat := by unfold ixN; rw [if_pos h0, if_pos h1]
  refine ⟨l[i.toNat], ?_, List.getElem?_eq_getElem h2, List.getElem_mem h2⟩
  unfold atI
  rw [e]
  exact List.getElem?_eq_getElem h2
theorem Ok.ix (h0 : 0 ≤ i) (h1 : i < (l.length : Int)) (h : ∀ x, x ∈ l → l[i.toNat]? = some x → Ok (k x) ψ) : Ok ((ixR l i).bind k) ψ := by
  obtain ⟨x, e, e2, m⟩ := atI_in h0 h1
  unfold ixR
  rw [e]
  exact h x m e2
theorem Ok.ixs {x : α} (e : ixR l i = .ok x) (h : Ok (k x) ψ) : Ok ((ixR l i).bind k) ψ := by rw [e]; exact h
/-- an item of a written list -/
theorem Ok.ixm (h0 : 0 ≤ i) (h1 : i < (l.length : Int)) (h : ∀ x, x ∈ l → Ok (k x) ψ) : Ok ((ixR l i).bind k) ψ := Ok.ix h0 h1 fun x m _ => h x m
/-- a loop that keeps I and ends by itself -/
theorem Ok.for {S R : Type} {f : α → S → Res (Fl S R)} (I : S → Prop) (hf : ∀ x s, x ∈ l → I s → Ok (f x s) fun r => ∃ s', r = .nx s' ∧ I s') : ∀ {s : S}, I s → Ok (forR l s f) fun r => ∃ s', r = .nx s' ∧ I s' := by
  induction l with
  | nil => intro s h; exact ⟨_, rfl, s, rfl, h⟩
  | cons x xs ih =>
    intro s h
    refine Ok.bind (hf x s List.mem_cons_self h) ?_
    rintro r ⟨s', rfl, h'⟩
    exact ih (fun y s m h => hf y s (List.mem_cons_of_mem _ m) h) h'
/-- a comprehension: each turn gives a good thing and keeps I -/
theorem Ok.compL {S R : Type} {f : α → S → Res (Option R × S)} (I : S → Prop) (G : R → Prop) (hf : ∀ x s, x ∈ l → I s → Ok (f x s) fun r => I r.2 ∧ ∀ b, r.1 = some b → G b) : ∀ {s : S}, I s → Ok (compL l s f) fun r => I r.2 ∧ ∀ b ∈ r.1, G b := by
  induction l with
  | nil => intro s h; exact ⟨_, rfl, h, fun _ m => nomatch m⟩
  | cons x xs ih =>
    intro s h
    refine Ok.bind (hf x s List.mem_cons_self h) ?_
    rintro ⟨o, s'⟩ ⟨h', g⟩
    refine Ok.bind (ih (fun y s m h => hf y s (List.mem_cons_of_mem _ m) h) h') ?_
    rintro ⟨bs, s2⟩ ⟨h2, g2⟩
    refine ⟨_, rfl, h2, fun b m => ?_⟩
    cases o with
    | none => exact g2 b m
    | some b0 =>
      rcases List.mem_cons.mp m with e | m
      · rw [e]; exact g b0 rfl
      · exact g2 b m
theorem Ok.comp {S R : Type} {f : α → S → Res (Option R × S)} {s : S} (hl : l.length ≤ 1000000) (I : S → Prop) (G : R → Prop) (hf : ∀ x s, x ∈ l → I s → Ok (f x s) fun r => I r.2 ∧ ∀ b, r.1 = some b → G b) (h : I s) : Ok (compR l s f) fun r => I r.2 ∧ ∀ b ∈ r.1, G b := Ok.guard hl (Ok.compL I G hf h)
/-- .. and no more things than turns -/
theorem Ok.compLen {S R : Type} {f : α → S → Res (Option R × S)} {s : S} (hl : l.length ≤ 1000000) (I : S → Prop) (G : R → Prop) (hf : ∀ x s, x ∈ l → I s → Ok (f x s) fun r => I r.2 ∧ ∀ b, r.1 = some b → G b) (h : I s) : Ok (compR l s f) fun r => I r.2 ∧ (∀ b ∈ r.1, G b) ∧ r.1.length ≤ l.length := by
  refine Ok.guard hl ?_
  clear hl
  induction l generalizing s with
  | nil => exact ⟨_, rfl, h, (fun _ m => nomatch m), Nat.le_refl _⟩
  | cons x xs ih =>
    refine Ok.bind (hf x s List.mem_cons_self h) ?_
    rintro ⟨o, s'⟩ ⟨h', g⟩
    refine Ok.bind (ih (fun y s m h => hf y s (List.mem_cons_of_mem _ m) h) h') ?_
    rintro ⟨bs, s2⟩ ⟨h2, g2, g3⟩
    refine ⟨_, rfl, h2, fun b m => ?_, ?_⟩
    · cases o with
      | none => exact g2 b m
      | some b0 =>
        rcases List.mem_cons.mp m with e | m
        · rw [e]; exact g b0 rfl
        · exact g2 b m
    · cases o with
      | none => exact Nat.le_succ_of_le g3
      | some b0 => exact Nat.succ_le_succ g3
end
theorem log2_small {n b : Nat} (h : n < 2 ^ b) (h0 : 0 < b) : n.log2 < b := PySem.Flt.log2_lt_of h0 h
theorem mulW {i j : Int} {a b : Nat} (ha : i.natAbs < 2 ^ a) (hb : j.natAbs < 2 ^ b) (h0 : 0 < a := by decide) (h1 : 0 < b := by decide) (h : a + b ≤ 1000000 := by decide) : CMulW i j := wide_mul ha hb h0 h1 h
theorem divW {i j : Int} {b : Nat} (h : 0 < j) (hb : j.natAbs < 2 ^ b) (h0 : 0 < b := by decide) (h9 : b ≤ 9000 := by decide) : CDivW i j := wide_div h hb h0 h9
theorem cutL_mem {α : Type} {l : List α} {lo hi : Option Int} {x : α} (h : x ∈ cutL l lo hi) : x ∈ l := List.mem_of_mem_drop (List.mem_of_mem_take h)
theorem cutL_len {α : Type} {l : List α} {lo hi : Option Int} : (cutL l lo hi).length ≤ l.length := by
  unfold cutL
  rw [List.length_take, List.length_drop]
  omega
mutual
theorem eqv_refl : ∀ d : D, flatD d = true → PyData.eqv (pyD d) (pyD d) = true
  | .non, _ => rfl
  | .bl b, _ => by show (b == b) = true; simp
  | .int i, _ => by show (i == i) = true; simp
  | .str x, _ => by show (x == x) = true; simp
  | .lst ds, h => eqvs_refl ds h
  | .tup ds, h => eqvs_refl ds h
  | .dic _, h => nomatch h
theorem eqvs_refl : ∀ ds : List D, flatDs ds = true → PyData.eqvAll (pyDs ds) (pyDs ds) = true
  | [], _ => rfl
  | d :: ds, h => by
    have h' : (flatD d && flatDs ds) = true := h
    rw [Bool.and_eq_true] at h'
    show (PyData.eqv (pyD d) (pyD d) && PyData.eqvAll (pyDs ds) (pyDs ds)) = true
    rw [eqv_refl d h'.1, eqvs_refl ds h'.2]
    rfl
end
theorem eqD_refl {d : D} (h : flatD d = true) : eqD d d = true := eqv_refl d h
theorem flat_ints : ∀ l : List Int, flatDs (l.map enc) = true
  | [] => rfl
  | i :: l => by show (flatD (.int i) && flatDs (l.map enc)) = true; rw [flat_ints l]; rfl

mutual
/-- data that may be compared: no dict, texts plain, not deep -/
def eqOk (n : Nat) : D → Bool
  | .lst ds => match n with | 0 => false | n + 1 => eqOks n ds
  | .tup ds => match n with | 0 => false | n + 1 => eqOks n ds
  | .dic _ => false
  | .str x => PyData.strOk x
  | _ => true
def eqOks (n : Nat) : List D → Bool
  | [] => true
  | d :: ds => eqOk n d && eqOks n ds
end
mutual
theorem eqOk_flat : ∀ (d : D) (n : Nat), eqOk n d = true → flatD d = true ∧ (pyD d).canLay0 = true ∧ (pyD d).depth ≤ n
  | .non, _, _ => ⟨rfl, rfl, Nat.zero_le _⟩
  | .bl _, _, _ => ⟨rfl, rfl, Nat.zero_le _⟩
  | .int _, _, _ => ⟨rfl, rfl, Nat.zero_le _⟩
  | .str _, _, h => ⟨rfl, h, Nat.zero_le _⟩
  | .lst ds, n + 1, h => let ⟨a, b, c⟩ := eqOks_flat ds n h; ⟨a, b, Nat.succ_le_succ c⟩
  | .tup ds, n + 1, h => let ⟨a, b, c⟩ := eqOks_flat ds n h; ⟨a, b, Nat.succ_le_succ c⟩
  | .lst _, 0, h => nomatch h
  | .tup _, 0, h => nomatch h
  | .dic _, _, h => nomatch h
theorem eqOks_flat : ∀ (ds : List D) (n : Nat), eqOks n ds = true → flatDs ds = true ∧ PyData.canLayAll0 (pyDs ds) = true ∧ PyData.depthAll (pyDs ds) ≤ n
  | [], _, _ => ⟨rfl, rfl, Nat.zero_le _⟩
  | d :: ds, n, h => by
    have h' : (eqOk n d && eqOks n ds) = true := h
    rw [Bool.and_eq_true] at h'
    obtain ⟨a, b, c⟩ := eqOk_flat d n h'.1
    obtain ⟨a', b', c'⟩ := eqOks_flat ds n h'.2
    refine ⟨?_, ?_, ?_⟩
    · show (flatD d && flatDs ds) = true; rw [a, a']; rfl
    · show (PyData.canLay0 (pyD d) && PyData.canLayAll0 (pyDs ds)) = true; rw [b, b']; rfl
    · exact Nat.max_le.mpr ⟨c, c'⟩
end
theorem okEq_of {d e : D} (h : eqOk 20 d = true) (h' : eqOk 20 e = true) : okEq d e := by
  obtain ⟨a, b, c⟩ := eqOk_flat d 20 h
  obtain ⟨a', b', c'⟩ := eqOk_flat e 20 h'
  refine ⟨a, a', ?_, ?_⟩
  · unfold SeqAt.shaped; rw [b, decide_eq_true (Nat.le_trans c (by decide))]; rfl
  · unfold SeqAt.shaped; rw [b', decide_eq_true (Nat.le_trans c' (by decide))]; rfl
theorem eqOk_ints : ∀ (l : List Int) (n : Nat), eqOks n (l.map enc) = true
  | [], _ => rfl
  | i :: l, n => by show (eqOk n (.int i) && eqOks n (l.map enc)) = true; rw [eqOk_ints l n]; rfl
/-- a comprehension without a state whose turns give values -/
theorem compL_map {α β : Type} {f : α → Unit → Res (Option β × Unit)} {g : α → β} : ∀ {l : List α}, (∀ x ∈ l, f x () = .ok (some (g x), ())) → compL l () f = .ok (l.map g, ())
  | [], _ => rfl
  | x :: xs, h => by
    unfold compL
    rw [h x List.mem_cons_self]
    show ((compL xs () f).bind fun q => .ok (g x :: q.1, q.2)) = _
    rw [compL_map fun y m => h y (List.mem_cons_of_mem _ m)]
    rfl
theorem compR_map {α β : Type} {f : α → Unit → Res (Option β × Unit)} {g : α → β} {l : List α} (hl : l.length ≤ 1000000) (h : ∀ x ∈ l, f x () = .ok (some (g x), ())) : compR l () f = .ok (l.map g, ()) := by
  unfold compR guardR
  rw [if_pos hl, compL_map h]
def smallD (d : D) : Prop := match d with | .lst ds => ds.length ≤ 1000000 | _ => True
end Y

set_option Elab.async false
set_option linter.all false
set_option maxRecDepth 100000
set_option maxHeartbeats 2000000
namespace A
open PySem PySem.Spec PyProof.Rows L2 Y
open Y.Enc (enc)
/-- a state of draws -/
def Gd (st : List Int) : Prop := st.length = 1 ∨ st.length = 3
theorem setR_in {α : Type} {l : List α} {i : Int} {x : α} (h0 : 0 ≤ i) (h1 : i < (l.length : Int)) : setR l i x = .ok (l.set i.toNat x) := by
  unfold setR
  have e : ixN l.length i = some i.toNat := by unfold ixN; rw [if_pos h0, if_pos h1]
  rw [e]
theorem Ok.set {α β : Type} {l : List α} {i : Int} {x : α} {k : List α → Res β} {ψ : β → Prop} (h0 : 0 ≤ i) (h1 : i < (l.length : Int)) (h : ∀ l', l'.length = l.length → Ok (k l') ψ) : Ok ((setR l i x).bind k) ψ := by
  rw [setR_in h0 h1]
  exact h _ (List.length_set ..)
theorem digit_ok {st : List Int} {b : Int} (h : Gd st) (hb : 0 < b) (hb2 : b.natAbs < 2 ^ 4000) : Ok (l_digit st b) fun r => (0 ≤ r.1 ∧ r.1 < b) ∧ r.2.length = 3 := by
  unfold l_digit
  refine Ok.bind (φ := fun l => l.length = 3) (Ok.ite (fun c => ?_) (fun c => ?_)) fun l hl => ?_
  · have e : st.length = 1 := by have := of_decide_eq_true c; omega
    refine Ok.ix (by decide) (by omega) fun x _ _ => Ok.guard (by simp [e]) (Ok.pure (by simp [e]))
  · have e : ¬ (st.length : Int) = 1 := of_decide_eq_false c
    refine Ok.pure ?_
    rcases h with h | h
    · exact absurd (by omega) e
    · exact h
  refine Ok.ix (by decide) (by omega) fun x _ _ => Ok.ite (fun c => ?_) (fun c => ?_)
  · refine Ok.ix (by decide) (by omega) fun y _ _ => Ok.guard hb (Ok.lt (Ok.ix (by decide) (by omega) fun z _ _ => Ok.guard (divW hb hb2) (Ok.set (by decide) (by omega) fun l' e => Ok.pure ⟨⟨Int.emod_nonneg _ (Int.ne_of_gt hb), Int.emod_lt_of_pos _ hb⟩, e.trans hl⟩)))
  · refine Ok.ix (by decide) (by omega) fun y _ _ => Ok.set (by decide) (by omega) fun l' e => Ok.ix (by decide) (by omega) fun z _ _ => Ok.ix (by decide) (by omega) fun u _ _ => Ok.lt ?_
    generalize hn : (((z + 7919 * u) + 1) * 48271) % 2147483647 = n
    have hn1 : 0 ≤ n ∧ n < 2147483647 := by subst hn; exact ⟨Int.emod_nonneg _ (by decide), Int.emod_lt_of_pos _ (by decide)⟩
    refine Ok.guard (mulW (a := 32) (b := 32) (by omega) (by omega)) (Ok.lt ?_)
    generalize hm : (n * (n / 1009 + 69621)) % 2147483647 = m
    have hm1 : 0 ≤ m ∧ m < 2147483647 := by subst hm; exact ⟨Int.emod_nonneg _ (by decide), Int.emod_lt_of_pos _ (by decide)⟩
    refine Ok.guard (mulW (a := 32) (b := 32) (by omega) (by omega)) (Ok.guard hb (Ok.pure ⟨⟨Int.emod_nonneg _ (Int.ne_of_gt hb), Int.emod_lt_of_pos _ hb⟩, e.trans hl⟩))
theorem gd3 {st : List Int} (h : st.length = 3) : Gd st := .inr h
/-- a draw -/
theorem dg {β : Type} {st : List Int} {b : Int} {k : Int × List Int → Res β} {ψ : β → Prop} (h : Gd st) (hb : 0 < b) (hb2 : b.natAbs < 2 ^ 4000) (hk : ∀ x s, 0 ≤ x → x < b → s.length = 3 → Ok (k (x, s)) ψ) : Ok ((l_digit st b).bind k) ψ :=
  Ok.bind (digit_ok h hb hb2) fun r p => hk r.1 r.2 p.1.1 p.1.2 p.2
theorem big {b : Int} {n : Nat} (h : b.natAbs < 2 ^ n) (hn : n ≤ 4000) : b.natAbs < 2 ^ 4000 := Nat.lt_of_lt_of_le h (Nat.pow_le_pow_right (by decide) hn)
theorem bg {b : Int} (h : b.natAbs < 18446744073709551616) : b.natAbs < 2 ^ 4000 := big (n := 64) h (by decide)
theorem truth_ok {b : Bool} : l_truth b b = .ok true := by cases b <;> rfl
end A

set_option Elab.async false
set_option linter.all false
set_option maxRecDepth 100000
set_option maxHeartbeats 2000000
namespace A
open PySem PySem.Spec PyProof.Rows L2 Y
open Y.Enc (enc)
theorem great_ok {st : List Int} (h : Gd st) : Ok (l_great st) fun r => (0 ≤ r.1 ∧ r.1 < 10 ^ 40) ∧ r.2.length = 3 := by
  unfold l_great
  have e4 : rngI 0 4 = [0, 1, 2, 3] := rfl
  rw [e4]
  have step : ∀ (x : Int) (a : Int × List Int), Gd a.2 → (0 ≤ a.1) → Ok ((l_digit a.2 (1000000000 + 7)).bind fun x17 => lt (((a.1 * 10000000000) + x17.1) : Int) fun x23 => (.ok (.nx (x23, x17.2)) : Res (Fl (Int × List Int) (Int × List Int)))) fun r => ∃ s', r = .nx s' ∧ s'.2.length = 3 ∧ 0 ≤ s'.1 ∧ s'.1 < a.1 * 10000000000 + 1000000007 := fun x a g ha =>
    dg g (by decide) (bg (by decide)) fun y s h0 h1 hs => Ok.lt ⟨_, rfl, _, rfl, hs, by show 0 ≤ a.1 * 10000000000 + y; omega, by show a.1 * 10000000000 + y < _; omega⟩
  refine Ok.bind (φ := fun r => ∃ s', r = .nx s' ∧ s'.2.length = 3 ∧ 0 ≤ s'.1 ∧ s'.1 < 10 ^ 40) ?_ ?_
  · refine Ok.bind (step 0 (0, st) h (Int.le_refl 0)) ?_
    rintro _ ⟨⟨a1, s1⟩, rfl, h1, p1, q1⟩
    refine Ok.bind (step 1 (a1, s1) (gd3 h1) p1) ?_
    rintro _ ⟨⟨a2, s2⟩, rfl, h2, p2, q2⟩
    refine Ok.bind (step 2 (a2, s2) (gd3 h2) p2) ?_
    rintro _ ⟨⟨a3, s3⟩, rfl, h3, p3, q3⟩
    refine Ok.bind (step 3 (a3, s3) (gd3 h3) p3) ?_
    rintro _ ⟨⟨a4, s4⟩, rfl, h4, p4, q4⟩
    refine ⟨_, rfl, _, rfl, h4, p4, ?_⟩
    simp only at *
    omega
  · rintro _ ⟨⟨a, s⟩, rfl, hs, p, q⟩
    exact Ok.pure ⟨⟨p, q⟩, hs⟩
/-- of at most 200 bits -/
def Sm (i : Int) : Prop := i.natAbs < 2 ^ 200
theorem sm_of {i : Int} (h : -(10 ^ 50) < i) (h' : i < 10 ^ 50) : Sm i := by unfold Sm; omega
theorem number_ok {st : List Int} (h : Gd st) : Ok (l_number st) fun r => Sm r.1 ∧ r.2.length = 3 := by
  unfold l_number
  refine dg h (by decide) (bg (by decide)) fun x1 s1 a1 b1 h1 => ?_
  refine dg (gd3 h1) (by decide) (bg (by decide)) fun x2 s2 a2 b2 h2 => ?_
  refine Ok.ixm a2 b2 fun x22 m => ?_
  refine dg (gd3 h2) (by decide) (bg (by decide)) fun x3 s3 a3 b3 h3 => ?_
  refine dg (gd3 h3) (by decide) (bg (by decide)) fun x4 s4 a4 b4 h4 => ?_
  refine dg (gd3 h4) (by decide) (bg (by decide)) fun x5 s5 a5 b5 h5 => ?_
  refine Ok.bind (great_ok (gd3 h5)) fun ⟨x6, s6⟩ ⟨⟨a6, b6⟩, h6⟩ => ?_
  refine Ok.bind (great_ok (gd3 h6)) fun ⟨x7, s7⟩ ⟨⟨a7, b7⟩, h7⟩ => ?_
  simp only at *
  refine Ok.guard (by simp) (Ok.ixm a1 b1 fun z m2 => ?_)
  have hz : 0 ≤ z ∧ z < 10 ^ 45 := by
    simp only [List.mem_append, List.mem_cons, List.not_mem_nil, or_false] at m2
    rcases m2 with (rfl | rfl | rfl | rfl | rfl | rfl) | rfl | rfl <;> omega
  have hx : x22 = 1 ∨ x22 = -1 := by
    simp only [List.mem_cons, List.not_mem_nil, or_false] at m
    omega
  refine Ok.guard (mulW (a := 2) (b := 160) (by rcases hx with rfl | rfl <;> decide) (by omega)) (Ok.pure ⟨?_, h7⟩)
  rcases hx with rfl | rfl <;> exact sm_of (by omega) (by omega)
theorem abs_eq (i : Int) : absI i = (i.natAbs : Int) := by unfold absI; split <;> omega
def euF : Int × Int → Res (Fl (Int × Int) Int) := fun a12 => (if (decide (0 < a12.2)) = true then guardR (0 < a12.2) <| lt ((a12.1 % a12.2) : Int) fun x16 => (.ok (.nx (a12.2, x16)) : Res (Fl (Int × Int) Int)) else .ok (.bk (a12.1, a12.2)))
theorem euclid (n : Nat) : ∀ a b : Nat, b < n → whileR n ((a : Int), (b : Int)) euF = .ok (.bk (((Nat.gcd a b : Nat) : Int), 0)) := by
  induction n with
  | zero => intro a b h; omega
  | succ n ih =>
    intro a b h
    unfold whileR
    by_cases hb : 0 < (b : Int)
    · have e1 : euF ((a : Int), (b : Int)) = .ok (.nx ((b : Int), (a : Int) % (b : Int))) := by
        unfold euF
        rw [if_pos (decide_eq_true hb)]
        unfold guardR
        rw [if_pos hb]
        rfl
      rw [e1]
      show whileR n ((b : Int), (a : Int) % (b : Int)) _ = _
      have e : (a : Int) % (b : Int) = ((a % b : Nat) : Int) := (Int.natCast_emod a b).symm
      rw [e, ih b (a % b) (by have := Nat.mod_lt a (show b > 0 by omega); omega)]
      rw [Nat.gcd_comm a b, Nat.gcd_rec b a, Nat.gcd_comm]
    · have : b = 0 := by omega
      subst this
      simp [euF]
      rfl
theorem div_ok (a b : Int) : m_divisor a b = .ok (Int.gcd a b : Int) := by
  have e0 : m_divisor a b = (whileR ((absI b).natAbs + 1) (absI a, absI b) euF).bind (afterR fun a17 => .ok a17.1) := rfl
  rw [e0, abs_eq, abs_eq, Int.natAbs_natCast, euclid (b.natAbs + 1) a.natAbs b.natAbs (by omega)]
  rfl
theorem shared_ok (a b : Int) : l_shared a b = .ok (Int.gcd a b : Int) := div_ok a b
theorem numI (i : Int) : m_is_number (.int i) = .ok true := rfl
theorem isfrac (p q : Int) : m_is_fraction (.tup [.int p, .int q]) = .ok (decide (0 < q) && decide (Int.gcd p q = 1)) := by
  have e : m_is_fraction (.tup [.int p, .int q]) = (if (decide (q < 1)) = true then .ok false else (m_divisor p q).bind fun x42 => .ok (decide (x42 = 1))) := rfl
  rw [e]
  by_cases h : q < 1
  · rw [if_pos (decide_eq_true h), decide_eq_false (by omega)]; rfl
  · rw [if_neg (by simpa using h), div_ok, decide_eq_true (by omega)]
    show Res.ok (decide (((Int.gcd p q : Nat) : Int) = 1)) = Res.ok (true && decide (Int.gcd p q = 1))
    rw [Bool.true_and]
    exact congrArg Res.ok (decide_eq_decide.mpr (by omega))
theorem frac_facts {a b : Int} (hb : b ≠ 0) : ∃ s : Int, (if b < 0 then -(Int.gcd a b : Int) else (Int.gcd a b : Int)) = s ∧ s ≠ 0 ∧ s.natAbs ≤ b.natAbs ∧ Int.fdiv a s * s = a ∧ Int.fdiv b s * s = b ∧ 0 < Int.fdiv b s ∧ Int.gcd (Int.fdiv a s) (Int.fdiv b s) = 1 := by
  have hg : 0 < Int.gcd a b := Int.gcd_pos_of_ne_zero_right a hb
  have ha' : ((Int.gcd a b : Nat) : Int) ∣ a := Int.gcd_dvd_left ..
  have hb' : ((Int.gcd a b : Nat) : Int) ∣ b := Int.gcd_dvd_right ..
  generalize hG : Int.gcd a b = g at *
  refine ⟨_, rfl, ?_⟩
  obtain ⟨p, ep⟩ := ha'
  obtain ⟨q, eq⟩ := hb'
  have hgn : (g : Int) ≠ 0 := by omega
  have hpq : Int.gcd p q = 1 := by
    have e : Int.gcd ((g : Int) * p) ((g : Int) * q) = g := by rw [← ep, ← eq]; exact hG
    rw [Int.gcd_mul_left] at e
    have e2 : g * Int.gcd p q = g * 1 := by simpa using e
    exact Nat.eq_of_mul_eq_mul_left hg e2
  have hle : g ≤ b.natAbs := by
    rw [eq, Int.natAbs_mul]
    have : 0 < q.natAbs := Int.natAbs_pos.mpr (by rintro rfl; exact hb (by rw [eq]; simp))
    simpa using Nat.le_mul_of_pos_right g this
  by_cases hn : b < 0
  · rw [if_pos hn]
    have e1 : a = -p * -(g : Int) := by rw [ep, Int.neg_mul_neg, Int.mul_comm]
    have e2 : b = -q * -(g : Int) := by rw [eq, Int.neg_mul_neg, Int.mul_comm]
    have d1 : Int.fdiv a (-(g : Int)) = -p := by rw [e1]; exact Int.mul_fdiv_cancel _ (by omega)
    have d2 : Int.fdiv b (-(g : Int)) = -q := by rw [e2]; exact Int.mul_fdiv_cancel _ (by omega)
    rw [d1, d2]
    refine ⟨by omega, by omega, e1.symm, e2.symm, ?_, by simpa using hpq⟩
    rcases Int.lt_or_le q 0 with h | h
    · omega
    · have := Int.mul_nonneg (show (0 : Int) ≤ g by omega) h
      rw [← eq] at this
      exact absurd hn (by omega)
  · rw [if_neg hn]
    have e1 : a = p * (g : Int) := by rw [ep, Int.mul_comm]
    have e2 : b = q * (g : Int) := by rw [eq, Int.mul_comm]
    have d1 : Int.fdiv a (g : Int) = p := by rw [e1]; exact Int.mul_fdiv_cancel _ hgn
    have d2 : Int.fdiv b (g : Int) = q := by rw [e2]; exact Int.mul_fdiv_cancel _ hgn
    rw [d1, d2]
    refine ⟨hgn, by omega, e1.symm, e2.symm, ?_, hpq⟩
    rcases Int.lt_or_le 0 q with h | h
    · exact h
    · have := Int.mul_nonneg (show (0 : Int) ≤ g by omega) (show 0 ≤ -q by omega)
      rw [Int.mul_neg, ← eq] at this
      exact absurd hn (by omega)
/-- the fraction of a by b, in lowest terms -/
def FracOf (a b : Int) (f : Tp2 Int Int) : Prop := 0 < f.b ∧ Int.gcd f.a f.b = 1 ∧ f.a * b = a * f.b ∧ f.a.natAbs ≤ a.natAbs ∧ f.b.natAbs ≤ b.natAbs
theorem natAbs_le_of_mul {x s a : Int} (h : x * s = a) (hs : s ≠ 0) : x.natAbs ≤ a.natAbs := by
  rw [← h, Int.natAbs_mul]
  exact Nat.le_mul_of_pos_right _ (by omega)
theorem fraction_ok {a b : Int} (hb : b ≠ 0) (hs : Sm b) : Ok (m_fraction (.int a) (.int b)) (FracOf a b) := by
  obtain ⟨s, e, h0, h1, h2, h3, h4, h5⟩ := frac_facts (a := a) hb
  have r : m_fraction (.int a) (.int b) = guardR (okEq (.int b) (enc (0 : Int))) (if (eqD (.int b) (enc (0 : Int))) = true then .err ⟨"NoFraction", []⟩ else ((m_divisor a b).noErr).bind fun x19 => ((if (decide (b < 0)) = true then lt ((-x19) : Int) fun x28 => .ok x28 else .ok x19) : Res (Int)).bind fun a29 => guardR (CDivZ a a29) <| guardR (CDivZ b a29) <| .ok (⟨(Int.fdiv a a29), (Int.fdiv b a29)⟩ : (Tp2 Int Int))) := rfl
  rw [r]
  refine Ok.guard (okEq_of rfl rfl) (Ok.iteF (show decide (b = 0) = false from decide_eq_false hb) ?_)
  rw [div_ok]
  refine Ok.bindE (a := (Int.gcd a b : Int)) rfl ?_
  refine Ok.bindE (a := s) ?_ (Ok.guard ⟨h0, ?_⟩ (Ok.guard ⟨h0, ?_⟩ (Ok.pure ?_)))
  · rw [← e]
    by_cases hn : b < 0
    · rw [if_pos (decide_eq_true hn), if_pos hn]; rfl
    · rw [if_neg (by simpa using hn), if_neg hn]
  · exact Nat.lt_of_lt_of_le (log2_small (b := 200) (Nat.lt_of_le_of_lt h1 hs) (by decide)) (by decide)
  · exact Nat.lt_of_lt_of_le (log2_small (b := 200) (Nat.lt_of_le_of_lt h1 hs) (by decide)) (by decide)
  · refine ⟨h4, h5, ?_, natAbs_le_of_mul h2 h0, natAbs_le_of_mul h3 h0⟩
    show Int.fdiv a s * b = a * Int.fdiv b s
    conv => lhs; rw [← h3]
    conv => rhs; rw [← h2]
    simp only [Int.mul_comm, Int.mul_left_comm, Int.mul_assoc]
theorem lowest_ok {p q : Int} (h : 0 < q) (hg : Int.gcd p q = 1) : l_lowest (.tup [.int p, .int q]) = .ok true := by
  have e : l_lowest (.tup [.int p, .int q]) = (if (decide (0 < q)) = true then (l_shared p q).bind fun x84 => .ok (decide (x84 = 1)) else .ok false) := rfl
  rw [e, if_pos (decide_eq_true h), shared_ok, hg]
  rfl
theorem moment_eq {d : D} (h : m_is_fraction d = .ok false) : m_is_moment d = .ok false := by
  unfold m_is_moment
  rw [h]
  rfl
theorem moment_ok {p q : Int} (h : 0 < q) (hg : Int.gcd p q = 1) : m_is_moment (.tup [.int p, .int q]) = .ok (decide (0 ≤ p)) := by
  unfold m_is_moment
  rw [isfrac, decide_eq_true h, hg]
  rfl
theorem sm_mul {i j : Int} (h : i.natAbs < 2 ^ 300) (h' : j.natAbs < 2 ^ 300) : CMulW i j := mulW h h'
theorem sm3 {i : Int} (h : Sm i) : i.natAbs < 2 ^ 300 := Nat.lt_of_lt_of_le h (by decide)
theorem right_ok {a b : Int} {f : Tp2 Int Int} (h : FracOf a b f) (ha : Sm a) (hb : Sm b) : Ok (l_right f a b) fun r => r = true := by
  obtain ⟨p, q⟩ := f
  obtain ⟨h1, h2, h3, h4, h5⟩ := h
  simp only at h1 h2 h3 h4 h5
  have hp : p.natAbs < 2 ^ 300 := Nat.lt_of_le_of_lt h4 (sm3 ha)
  have hq : q.natAbs < 2 ^ 300 := Nat.lt_of_le_of_lt h5 (sm3 hb)
  unfold l_right
  refine Ok.bindE (lowest_ok h1 h2) (Ok.iteT rfl (Ok.guard (sm_mul hp (sm3 hb)) (Ok.guard (sm_mul (sm3 ha) hq) ?_)))
  refine Ok.iteF (by show (!decide (p * b = a * q)) = false; rw [decide_eq_true h3]; rfl) ?_
  refine Ok.bindE (isfrac p q) (Ok.iteF (by rw [decide_eq_true h1, h2]; rfl) ?_)
  refine Ok.bindE (moment_ok h1 h2) (Ok.bindE truth_ok (Ok.iteT rfl ?_))
  refine Ok.bindE (a := p / q) ?_ (Ok.bindE (a := true) rfl (Ok.iteT rfl ?_))
  · unfold m_floor guardR
    rw [if_pos (show CDivW p q from divW h1 (b := 300) hq)]
  have e1 : p / q * q ≤ p := Int.ediv_mul_le p (by omega)
  have e2 : p < (p / q + 1) * q := Int.lt_ediv_add_one_mul_self p h1
  have hf : (p / q).natAbs ≤ p.natAbs := Int.natAbs_ediv_le_natAbs p q
  refine Ok.guard (sm_mul (Nat.lt_of_le_of_lt hf hp) hq) (Ok.iteT (decide_eq_true e1) (Ok.guard (mulW (a := 301) (b := 300) ?_ hq) (Ok.pure (decide_eq_true e2))))
  generalize p / q = u at hf
  have : (u + 1).natAbs ≤ u.natAbs + 1 := by omega
  have h6 : u.natAbs < 2 ^ 300 := Nat.lt_of_le_of_lt hf hp
  exact Nat.lt_of_le_of_lt this (Nat.lt_of_lt_of_le (Nat.succ_lt_succ h6) (by decide))
theorem refused_ok {a : Int} : l_refused (.int a) (.int 0) = .ok true := rfl
theorem less_ok {f g : Tp2 Int Int} (h1 : f.a.natAbs < 2 ^ 300) (h2 : f.b.natAbs < 2 ^ 300) (h3 : g.a.natAbs < 2 ^ 300) (h4 : g.b.natAbs < 2 ^ 300) : m_less f g = .ok (decide (f.a * g.b < g.a * f.b)) := by
  unfold m_less guardR
  rw [if_pos (sm_mul h1 h4), if_pos (sm_mul h3 h2)]
theorem odd_ok {f : Tp2 Int Int} {a b : Int} {st : List Int} (h : FracOf a b f) (ha : Sm a) (hb : Sm b) (hs : Gd st) : Ok (l_written_otherwise f st) fun r => m_is_fraction r.1 = .ok false ∧ r.2.length = 3 := by
  obtain ⟨p, q⟩ := f
  obtain ⟨h1, h2, h3, h4, h5⟩ := h
  simp only at h1 h2 h3 h4 h5
  have hp : p.natAbs < 2 ^ 300 := Nat.lt_of_le_of_lt h4 (sm3 ha)
  have hq : q.natAbs < 2 ^ 300 := Nat.lt_of_le_of_lt h5 (sm3 hb)
  unfold l_written_otherwise
  refine dg hs (by decide) (bg (by decide)) fun x1 s1 a1 b1 g1 => Ok.lt ?_
  refine Ok.guard (mulW (a := 300) (b := 4) hp (by simp only; omega)) (Ok.guard (mulW (a := 300) (b := 4) hq (by simp only; omega)) ?_)
  refine Ok.guard (Nat.lt_trans (log2_small (b := 10) (by simp only; omega) (by decide)) (by decide)) (Ok.guard (by simp) (Ok.guard (by simp) ?_))
  refine dg (gd3 g1) (by simp) (bg (by simp)) fun x2 s2 a2 b2 g2 => ?_
  refine Ok.ixm a2 b2 fun x m => Ok.pure ⟨?_, g2⟩
  simp only [List.mem_append, List.mem_cons, List.not_mem_nil, or_false, List.map_cons, List.map_nil] at m
  have hk : Int.gcd (p * (2 + x1)) (q * (2 + x1)) ≠ 1 := by
    rw [Int.gcd_mul_right, h2]
    omega
  rcases m with ((rfl | rfl | rfl | rfl | rfl | rfl) | (rfl | rfl | rfl | rfl | rfl | rfl | rfl)) | rfl
  · exact (isfrac _ _).trans (by rw [decide_eq_false hk, Bool.and_false])
  · exact (isfrac _ _).trans (by rw [decide_eq_false (show ¬ 0 < -q by omega)]; rfl)
  · rfl
  · rfl
  · rfl
  · exact (isfrac _ _).trans rfl
  · rfl
  · rfl
  · rfl
  · rfl
  · rfl
  · rfl
  · rfl
  · exact (isfrac _ _).trans (by rw [decide_eq_false (show ¬ 0 < q - q by omega)]; rfl)
theorem cell_ok {ns : List Int} {i : Int} (h0 : 0 ≤ i) : Ok (l_cell_at ns i) fun _ => True := by
  unfold l_cell_at
  exact Ok.ite (fun c => Ok.ix h0 (of_decide_eq_true c) fun x _ _ => Ok.pure trivial) fun _ => Ok.pure trivial
theorem frac300 {a b : Int} {f : Tp2 Int Int} (h : FracOf a b f) (ha : Sm a) (hb : Sm b) : f.a.natAbs < 2 ^ 300 ∧ f.b.natAbs < 2 ^ 300 := ⟨Nat.lt_of_le_of_lt h.2.2.2.1 (sm3 ha), Nat.lt_of_le_of_lt h.2.2.2.2 (sm3 hb)⟩
theorem frac_eq {a b : Int} (hb : b ≠ 0) (hs : Sm b) : ∃ f, m_fraction (.int a) (.int b) = .ok f ∧ FracOf a b f := fraction_ok hb hs
theorem law_ok (ns : List Int) (h : ns.length ≤ 63) : m_law ns = .ok true := by
  have q : Ok (m_law ns) fun r => r = true := by
    unfold m_law
    refine Ok.bind (cell_ok (by decide)) fun x1 _ => Ok.bind (number_ok (.inl rfl)) fun ⟨a, s1⟩ ⟨ha, g1⟩ => ?_
    refine Ok.bind (cell_ok (by decide)) fun x2 _ => Ok.bind (number_ok (.inl rfl)) fun ⟨b0, s2⟩ ⟨hb0, g2⟩ => ?_
    refine Ok.bind (φ := fun r => ∃ b s, r = .nx (b, s) ∧ b ≠ 0 ∧ Sm b ∧ s.length = 3) (Ok.ite (fun c => ?_) (fun c => ?_)) ?_
    · have e : b0 = 0 := of_decide_eq_true c
      refine Ok.bindE refused_ok (Ok.iteT rfl ?_)
      refine dg (gd3 g1) (by decide) (bg (by decide)) fun y s h0 h1 hs => Ok.lt (Ok.pure ⟨_, _, rfl, by show 1 + y ≠ 0; omega, sm_of (by show _ < 1 + y; omega) (by show 1 + y < _; omega), hs⟩)
    · exact Ok.pure ⟨_, _, rfl, of_decide_eq_false c, hb0, g1⟩
    rintro _ ⟨b, s3, rfl, hb, sb, g3⟩
    obtain ⟨f, ef, hf⟩ := frac_eq (a := a) hb sb
    obtain ⟨f1, ef1, hf1⟩ := frac_eq (a := a) (b := 1) (by decide) (sm_of (by decide) (by decide))
    have fe : ∀ {m : Res (Tp2 Int Int)} {f}, m = .ok f → m.noErr = .ok f := fun e => by rw [e]; rfl
    refine Ok.bindE (fe ef) (Ok.bind (right_ok hf ha sb) fun r1 e1 => Ok.iteT e1 ?_)
    refine Ok.bindE (fe ef) (Ok.guard (okEq_of rfl rfl) (Ok.iteF (by show (!eqD (enc f) (enc f)) = false; rw [eqD_refl rfl]; rfl) ?_))
    refine Ok.bindE (fe ef1) (Ok.bind (right_ok hf1 ha (sm_of (by decide) (by decide))) fun r2 e2 => Ok.iteT e2 ?_)
    have u1 : f1.b = 1 := by
      have h1 := hf1.1
      have h5 := hf1.2.2.2.2
      omega
    refine Ok.bindE (fe ef1) (Ok.iteF (by rw [decide_eq_true u1]; rfl) ?_)
    refine Ok.bind (cell_ok (by decide)) fun x3 _ => Ok.bind (number_ok (.inl rfl)) fun ⟨c, s4⟩ ⟨hc, g4⟩ => ?_
    refine dg (gd3 g3) (by decide) (bg (by decide)) fun y s5 h0 h1 g5 => ?_
    have sd : Sm (1 + y) := sm_of (by omega) (by omega)
    obtain ⟨f2, ef2, hf2⟩ := frac_eq (a := c) (b := 1 + y) (by omega) sd
    refine Ok.bindE (fe ef2) ?_
    obtain ⟨z1, z2⟩ := frac300 hf ha sb
    obtain ⟨z3, z4⟩ := frac300 hf2 hc sd
    have turn : ∀ x : Tp2 (Tp2 Int Int) (Tp2 Int Int), (x.a.a.natAbs < 2 ^ 300 ∧ x.a.b.natAbs < 2 ^ 300) → (x.b.a.natAbs < 2 ^ 300 ∧ x.b.b.natAbs < 2 ^ 300) → Ok ((m_less x.a x.b).bind fun x180 => guardR (CMulW x.a.a x.b.b) <| guardR (CMulW x.b.a x.a.b) <| (l_truth x180 (decide ((x.a.a * x.b.b) < (x.b.a * x.a.b)))).bind fun x210 => (if x210 = true then (.ok (.nx ()) : Res (Fl Unit Bool)) else .ok (.rt false))) fun r => ∃ s', r = .nx s' ∧ True := fun x ⟨p1, p2⟩ ⟨p3, p4⟩ =>
      Ok.bindE (less_ok p1 p2 p3 p4) (Ok.guard (sm_mul p1 p4) (Ok.guard (sm_mul p3 p2) (Ok.bindE truth_ok (Ok.iteT rfl (Ok.pure ⟨_, rfl, trivial⟩)))))
    refine Ok.bind (Ok.for (fun _ => True) (fun x s m _ => turn x ?_ ?_) trivial) ?_
    · simp only [List.mem_cons, List.not_mem_nil, or_false] at m
      rcases m with rfl | rfl | rfl
      · exact ⟨z1, z2⟩
      · exact ⟨z3, z4⟩
      · exact ⟨z1, z2⟩
    · simp only [List.mem_cons, List.not_mem_nil, or_false] at m
      rcases m with rfl | rfl | rfl
      · exact ⟨z3, z4⟩
      · exact ⟨z1, z2⟩
      · exact ⟨z1, z2⟩
    rintro _ ⟨_, rfl, _⟩
    refine Ok.bind (odd_ok hf ha sb (gd3 g5)) fun ⟨d, s6⟩ ⟨ed, g6⟩ => ?_
    refine Ok.bindE ed (Ok.iteF rfl (Ok.bindE (moment_eq ed) (Ok.iteF rfl ?_)))
    refine dg (gd3 g6) (by decide) (bg (by decide)) fun y2 s7 h2 h3 g7 => Ok.ixm h2 h3 fun x m => ?_
    simp only [List.mem_cons, List.not_mem_nil, or_false] at m
    rcases m with rfl | rfl | rfl | rfl | rfl | rfl | rfl | rfl <;> exact Ok.bindE (a := true) rfl (Ok.iteT rfl (Ok.bindE (a := true) rfl (Ok.pure rfl)))
  obtain ⟨a, e, rfl⟩ := q
  exact e
end A

set_option Elab.async false
set_option linter.all false
set_option maxRecDepth 100000
set_option maxHeartbeats 4000000
namespace A
open PySem PySem.Spec PyProof.Rows L2 Y
open Y.Enc (enc)
theorem all_mk {l : PySem.W.OpenLaw} {w : World} {K : PySem.W.Frag} {h : Heap} {mg : Str → Option Value} {fa : Addr} (X : K.In h) (G : h.Ns mainGlobals mg) (hfa : mg "law" = some (.ref fa))
    {f_divisor : Addr} {od_divisor an_divisor : Option Addr} {sl_divisor : Array (Option Value)} {oc_divisor kV_divisor dc_divisor pm_divisor cd_divisor ct_divisor : Value}
    (a_divisor : PySem.W.nsIn K mainGlobals "divisor" = some (some (.ref f_divisor))) (l_divisor : K.lookup f_divisor = some ⟨oc_divisor, od_divisor, .func (PySem.W.fnOf "divisor" "divisor" (defArgs s_divisor) (defBody s_divisor) (defScope s_divisor) .none kV_divisor dc_divisor pm_divisor an_divisor cd_divisor ct_divisor), sl_divisor⟩) (c_divisor : PySem.W.codeIn K cd_divisor "divisor" = true) (k_divisor : PySem.W.keepIn K (.ref f_divisor) = true)
    {f_is_number : Addr} {od_is_number an_is_number : Option Addr} {sl_is_number : Array (Option Value)} {oc_is_number kV_is_number dc_is_number pm_is_number cd_is_number ct_is_number : Value}
    (a_is_number : PySem.W.nsIn K mainGlobals "is_number" = some (some (.ref f_is_number))) (l_is_number : K.lookup f_is_number = some ⟨oc_is_number, od_is_number, .func (PySem.W.fnOf "is_number" "is_number" (defArgs s_is_number) (defBody s_is_number) (defScope s_is_number) .none kV_is_number dc_is_number pm_is_number an_is_number cd_is_number ct_is_number), sl_is_number⟩) (c_is_number : PySem.W.codeIn K cd_is_number "is_number" = true) (k_is_number : PySem.W.keepIn K (.ref f_is_number) = true)
    {f_fraction : Addr} {od_fraction an_fraction : Option Addr} {sl_fraction : Array (Option Value)} {oc_fraction kV_fraction dc_fraction pm_fraction cd_fraction ct_fraction : Value} {T_fraction_ : Addr} {oT_fraction : Value} {dT_fraction : Option Addr} {nT_fraction : Nat} {sT_fraction : Array (Option Value)} {tk_fraction_bottom : Tok}
    (a_fraction : PySem.W.nsIn K mainGlobals "fraction" = some (some (.ref f_fraction))) (l_fraction : K.lookup f_fraction = some ⟨oc_fraction, od_fraction, .func (PySem.W.fnOf "fraction" "fraction" (defArgs s_fraction) (defBody s_fraction) (defScope s_fraction) (.ref T_fraction_) kV_fraction dc_fraction pm_fraction an_fraction cd_fraction ct_fraction), sl_fraction⟩) (c_fraction : PySem.W.codeIn K cd_fraction "fraction" = true) (k_fraction : PySem.W.keepIn K (.ref f_fraction) = true)
    (lT_fraction : K.lookup T_fraction_ = some ⟨oT_fraction, dT_fraction, .seq #[.int 1 tk_fraction_bottom] nT_fraction, sT_fraction⟩)
    {f_is_fraction : Addr} {od_is_fraction an_is_fraction : Option Addr} {sl_is_fraction : Array (Option Value)} {oc_is_fraction kV_is_fraction dc_is_fraction pm_is_fraction cd_is_fraction ct_is_fraction : Value}
    (a_is_fraction : PySem.W.nsIn K mainGlobals "is_fraction" = some (some (.ref f_is_fraction))) (l_is_fraction : K.lookup f_is_fraction = some ⟨oc_is_fraction, od_is_fraction, .func (PySem.W.fnOf "is_fraction" "is_fraction" (defArgs s_is_fraction) (defBody s_is_fraction) (defScope s_is_fraction) .none kV_is_fraction dc_is_fraction pm_is_fraction an_is_fraction cd_is_fraction ct_is_fraction), sl_is_fraction⟩) (c_is_fraction : PySem.W.codeIn K cd_is_fraction "is_fraction" = true) (k_is_fraction : PySem.W.keepIn K (.ref f_is_fraction) = true)
    {f_is_moment : Addr} {od_is_moment an_is_moment : Option Addr} {sl_is_moment : Array (Option Value)} {oc_is_moment kV_is_moment dc_is_moment pm_is_moment cd_is_moment ct_is_moment : Value}
    (a_is_moment : PySem.W.nsIn K mainGlobals "is_moment" = some (some (.ref f_is_moment))) (l_is_moment : K.lookup f_is_moment = some ⟨oc_is_moment, od_is_moment, .func (PySem.W.fnOf "is_moment" "is_moment" (defArgs s_is_moment) (defBody s_is_moment) (defScope s_is_moment) .none kV_is_moment dc_is_moment pm_is_moment an_is_moment cd_is_moment ct_is_moment), sl_is_moment⟩) (c_is_moment : PySem.W.codeIn K cd_is_moment "is_moment" = true) (k_is_moment : PySem.W.keepIn K (.ref f_is_moment) = true)
    {f_less : Addr} {od_less an_less : Option Addr} {sl_less : Array (Option Value)} {oc_less kV_less dc_less pm_less cd_less ct_less : Value}
    (a_less : PySem.W.nsIn K mainGlobals "less" = some (some (.ref f_less))) (l_less : K.lookup f_less = some ⟨oc_less, od_less, .func (PySem.W.fnOf "less" "less" (defArgs s_less) (defBody s_less) (defScope s_less) .none kV_less dc_less pm_less an_less cd_less ct_less), sl_less⟩) (c_less : PySem.W.codeIn K cd_less "less" = true) (k_less : PySem.W.keepIn K (.ref f_less) = true)
    {f_floor : Addr} {od_floor an_floor : Option Addr} {sl_floor : Array (Option Value)} {oc_floor kV_floor dc_floor pm_floor cd_floor ct_floor : Value}
    (a_floor : PySem.W.nsIn K mainGlobals "floor" = some (some (.ref f_floor))) (l_floor : K.lookup f_floor = some ⟨oc_floor, od_floor, .func (PySem.W.fnOf "floor" "floor" (defArgs s_floor) (defBody s_floor) (defScope s_floor) .none kV_floor dc_floor pm_floor an_floor cd_floor ct_floor), sl_floor⟩) (c_floor : PySem.W.codeIn K cd_floor "floor" = true) (k_floor : PySem.W.keepIn K (.ref f_floor) = true)
    {f__law_cell_at : Addr} {od__law_cell_at an__law_cell_at : Option Addr} {sl__law_cell_at : Array (Option Value)} {oc__law_cell_at kV__law_cell_at dc__law_cell_at pm__law_cell_at cd__law_cell_at ct__law_cell_at : Value}
    (a__law_cell_at : PySem.W.nsIn K mainGlobals "_law_cell_at" = some (some (.ref f__law_cell_at))) (l__law_cell_at : K.lookup f__law_cell_at = some ⟨oc__law_cell_at, od__law_cell_at, .func (PySem.W.fnOf "_law_cell_at" "_law_cell_at" (defArgs s__law_cell_at) (defBody s__law_cell_at) (defScope s__law_cell_at) .none kV__law_cell_at dc__law_cell_at pm__law_cell_at an__law_cell_at cd__law_cell_at ct__law_cell_at), sl__law_cell_at⟩) (c__law_cell_at : PySem.W.codeIn K cd__law_cell_at "_law_cell_at" = true) (k__law_cell_at : PySem.W.keepIn K (.ref f__law_cell_at) = true)
    {f__law_digit : Addr} {od__law_digit an__law_digit : Option Addr} {sl__law_digit : Array (Option Value)} {oc__law_digit kV__law_digit dc__law_digit pm__law_digit cd__law_digit ct__law_digit : Value}
    (a__law_digit : PySem.W.nsIn K mainGlobals "_law_digit" = some (some (.ref f__law_digit))) (l__law_digit : K.lookup f__law_digit = some ⟨oc__law_digit, od__law_digit, .func (PySem.W.fnOf "_law_digit" "_law_digit" (defArgs s__law_digit) (defBody s__law_digit) (defScope s__law_digit) .none kV__law_digit dc__law_digit pm__law_digit an__law_digit cd__law_digit ct__law_digit), sl__law_digit⟩) (c__law_digit : PySem.W.codeIn K cd__law_digit "_law_digit" = true) (k__law_digit : PySem.W.keepIn K (.ref f__law_digit) = true)
    {f__law_great : Addr} {od__law_great an__law_great : Option Addr} {sl__law_great : Array (Option Value)} {oc__law_great kV__law_great dc__law_great pm__law_great cd__law_great ct__law_great : Value}
    (a__law_great : PySem.W.nsIn K mainGlobals "_law_great" = some (some (.ref f__law_great))) (l__law_great : K.lookup f__law_great = some ⟨oc__law_great, od__law_great, .func (PySem.W.fnOf "_law_great" "_law_great" (defArgs s__law_great) (defBody s__law_great) (defScope s__law_great) .none kV__law_great dc__law_great pm__law_great an__law_great cd__law_great ct__law_great), sl__law_great⟩) (c__law_great : PySem.W.codeIn K cd__law_great "_law_great" = true) (k__law_great : PySem.W.keepIn K (.ref f__law_great) = true)
    {f__law_number : Addr} {od__law_number an__law_number : Option Addr} {sl__law_number : Array (Option Value)} {oc__law_number kV__law_number dc__law_number pm__law_number cd__law_number ct__law_number : Value}
    (a__law_number : PySem.W.nsIn K mainGlobals "_law_number" = some (some (.ref f__law_number))) (l__law_number : K.lookup f__law_number = some ⟨oc__law_number, od__law_number, .func (PySem.W.fnOf "_law_number" "_law_number" (defArgs s__law_number) (defBody s__law_number) (defScope s__law_number) .none kV__law_number dc__law_number pm__law_number an__law_number cd__law_number ct__law_number), sl__law_number⟩) (c__law_number : PySem.W.codeIn K cd__law_number "_law_number" = true) (k__law_number : PySem.W.keepIn K (.ref f__law_number) = true)
    {f__law_shared : Addr} {od__law_shared an__law_shared : Option Addr} {sl__law_shared : Array (Option Value)} {oc__law_shared kV__law_shared dc__law_shared pm__law_shared cd__law_shared ct__law_shared : Value}
    (a__law_shared : PySem.W.nsIn K mainGlobals "_law_shared" = some (some (.ref f__law_shared))) (l__law_shared : K.lookup f__law_shared = some ⟨oc__law_shared, od__law_shared, .func (PySem.W.fnOf "_law_shared" "_law_shared" (defArgs s__law_shared) (defBody s__law_shared) (defScope s__law_shared) .none kV__law_shared dc__law_shared pm__law_shared an__law_shared cd__law_shared ct__law_shared), sl__law_shared⟩) (c__law_shared : PySem.W.codeIn K cd__law_shared "_law_shared" = true) (k__law_shared : PySem.W.keepIn K (.ref f__law_shared) = true)
    {f__law_whole : Addr} {od__law_whole an__law_whole : Option Addr} {sl__law_whole : Array (Option Value)} {oc__law_whole kV__law_whole dc__law_whole pm__law_whole cd__law_whole ct__law_whole : Value}
    (a__law_whole : PySem.W.nsIn K mainGlobals "_law_whole" = some (some (.ref f__law_whole))) (l__law_whole : K.lookup f__law_whole = some ⟨oc__law_whole, od__law_whole, .func (PySem.W.fnOf "_law_whole" "_law_whole" (defArgs s__law_whole) (defBody s__law_whole) (defScope s__law_whole) .none kV__law_whole dc__law_whole pm__law_whole an__law_whole cd__law_whole ct__law_whole), sl__law_whole⟩) (c__law_whole : PySem.W.codeIn K cd__law_whole "_law_whole" = true) (k__law_whole : PySem.W.keepIn K (.ref f__law_whole) = true)
    {f__law_truth : Addr} {od__law_truth an__law_truth : Option Addr} {sl__law_truth : Array (Option Value)} {oc__law_truth kV__law_truth dc__law_truth pm__law_truth cd__law_truth ct__law_truth : Value}
    (a__law_truth : PySem.W.nsIn K mainGlobals "_law_truth" = some (some (.ref f__law_truth))) (l__law_truth : K.lookup f__law_truth = some ⟨oc__law_truth, od__law_truth, .func (PySem.W.fnOf "_law_truth" "_law_truth" (defArgs s__law_truth) (defBody s__law_truth) (defScope s__law_truth) .none kV__law_truth dc__law_truth pm__law_truth an__law_truth cd__law_truth ct__law_truth), sl__law_truth⟩) (c__law_truth : PySem.W.codeIn K cd__law_truth "_law_truth" = true) (k__law_truth : PySem.W.keepIn K (.ref f__law_truth) = true)
    {f__law_lowest : Addr} {od__law_lowest an__law_lowest : Option Addr} {sl__law_lowest : Array (Option Value)} {oc__law_lowest kV__law_lowest dc__law_lowest pm__law_lowest cd__law_lowest ct__law_lowest : Value}
    (a__law_lowest : PySem.W.nsIn K mainGlobals "_law_lowest" = some (some (.ref f__law_lowest))) (l__law_lowest : K.lookup f__law_lowest = some ⟨oc__law_lowest, od__law_lowest, .func (PySem.W.fnOf "_law_lowest" "_law_lowest" (defArgs s__law_lowest) (defBody s__law_lowest) (defScope s__law_lowest) .none kV__law_lowest dc__law_lowest pm__law_lowest an__law_lowest cd__law_lowest ct__law_lowest), sl__law_lowest⟩) (c__law_lowest : PySem.W.codeIn K cd__law_lowest "_law_lowest" = true) (k__law_lowest : PySem.W.keepIn K (.ref f__law_lowest) = true)
    {f__law_refused : Addr} {od__law_refused an__law_refused : Option Addr} {sl__law_refused : Array (Option Value)} {oc__law_refused kV__law_refused dc__law_refused pm__law_refused cd__law_refused ct__law_refused : Value}
    (a__law_refused : PySem.W.nsIn K mainGlobals "_law_refused" = some (some (.ref f__law_refused))) (l__law_refused : K.lookup f__law_refused = some ⟨oc__law_refused, od__law_refused, .func (PySem.W.fnOf "_law_refused" "_law_refused" (defArgs s__law_refused) (defBody s__law_refused) (defScope s__law_refused) .none kV__law_refused dc__law_refused pm__law_refused an__law_refused cd__law_refused ct__law_refused), sl__law_refused⟩) (c__law_refused : PySem.W.codeIn K cd__law_refused "_law_refused" = true) (k__law_refused : PySem.W.keepIn K (.ref f__law_refused) = true)
    {f__law_written_otherwise : Addr} {od__law_written_otherwise an__law_written_otherwise : Option Addr} {sl__law_written_otherwise : Array (Option Value)} {oc__law_written_otherwise kV__law_written_otherwise dc__law_written_otherwise pm__law_written_otherwise cd__law_written_otherwise ct__law_written_otherwise : Value}
    (a__law_written_otherwise : PySem.W.nsIn K mainGlobals "_law_written_otherwise" = some (some (.ref f__law_written_otherwise))) (l__law_written_otherwise : K.lookup f__law_written_otherwise = some ⟨oc__law_written_otherwise, od__law_written_otherwise, .func (PySem.W.fnOf "_law_written_otherwise" "_law_written_otherwise" (defArgs s__law_written_otherwise) (defBody s__law_written_otherwise) (defScope s__law_written_otherwise) .none kV__law_written_otherwise dc__law_written_otherwise pm__law_written_otherwise an__law_written_otherwise cd__law_written_otherwise ct__law_written_otherwise), sl__law_written_otherwise⟩) (c__law_written_otherwise : PySem.W.codeIn K cd__law_written_otherwise "_law_written_otherwise" = true) (k__law_written_otherwise : PySem.W.keepIn K (.ref f__law_written_otherwise) = true)
    {f__law_right : Addr} {od__law_right an__law_right : Option Addr} {sl__law_right : Array (Option Value)} {oc__law_right kV__law_right dc__law_right pm__law_right cd__law_right ct__law_right : Value}
    (a__law_right : PySem.W.nsIn K mainGlobals "_law_right" = some (some (.ref f__law_right))) (l__law_right : K.lookup f__law_right = some ⟨oc__law_right, od__law_right, .func (PySem.W.fnOf "_law_right" "_law_right" (defArgs s__law_right) (defBody s__law_right) (defScope s__law_right) .none kV__law_right dc__law_right pm__law_right an__law_right cd__law_right ct__law_right), sl__law_right⟩) (c__law_right : PySem.W.codeIn K cd__law_right "_law_right" = true) (k__law_right : PySem.W.keepIn K (.ref f__law_right) = true)
    {f_law : Addr} {od_law an_law : Option Addr} {sl_law : Array (Option Value)} {oc_law kV_law dc_law pm_law cd_law ct_law : Value}
    (a_law : PySem.W.nsIn K mainGlobals "law" = some (some (.ref f_law))) (l_law : K.lookup f_law = some ⟨oc_law, od_law, .func (PySem.W.fnOf "law" "law" (defArgs s_law) (defBody s_law) (defScope s_law) .none kV_law dc_law pm_law an_law cd_law ct_law), sl_law⟩) (c_law : PySem.W.codeIn K cd_law "law" = true) (k_law : PySem.W.keepIn K (.ref f_law) = true)
    {C_NoFraction : Addr}
    (xca_NoFraction : PySem.W.nsIn K mainGlobals "NoFraction" = some (some (.ref C_NoFraction)))
    (xchg_NoFraction : PySem.W.findIn K (.ref C_NoFraction) "__getattribute__" = some (some (.builtin "BaseException.__getattribute__")))
    (xchk_NoFraction : PySem.W.findIn K (.ref C_NoFraction) "__getattr__" = some none)
    (xchs_NoFraction : PySem.W.subIn K (.ref C_NoFraction) (.type "BaseException") = some true)
    (xchd_NoFraction : PySem.W.hasDictIn K C_NoFraction = true)
    (xcha_NoFraction : PySem.W.findIn K (.ref C_NoFraction) "__class__" = some (some (.builtin "object.__class__")))
    (xchm_NoFraction : PySem.W.mroIn K C_NoFraction (.type "object") = some true)
    (xcty_NoFraction : PySem.W.typeIn K (.ref C_NoFraction) = some (.type "type"))
    (xckp_NoFraction : PySem.W.keepIn K (.ref C_NoFraction) = true)
    (xcve_NoFraction : PySem.W.subIn K (.ref C_NoFraction) (.type "ValueError") = some true)
    (xcis_NoFraction : PySem.W.isClsIn K C_NoFraction = true)
    (xcself_NoFraction : PySem.W.subIn K (.ref C_NoFraction) (.ref C_NoFraction) = some true)
    (xcex_NoFraction : PySem.W.excIn K C_NoFraction [.type "ValueError", .type "Exception", .type "BaseException", .type "object"] "ValueError.__new__" = true)
    {C_ScrollError : Addr}
    (xca_ScrollError : PySem.W.nsIn K mainGlobals "ScrollError" = some (some (.ref C_ScrollError)))
    (xchg_ScrollError : PySem.W.findIn K (.ref C_ScrollError) "__getattribute__" = some (some (.builtin "BaseException.__getattribute__")))
    (xchk_ScrollError : PySem.W.findIn K (.ref C_ScrollError) "__getattr__" = some none)
    (xchs_ScrollError : PySem.W.subIn K (.ref C_ScrollError) (.type "BaseException") = some true)
    (xchd_ScrollError : PySem.W.hasDictIn K C_ScrollError = true)
    (xcha_ScrollError : PySem.W.findIn K (.ref C_ScrollError) "__class__" = some (some (.builtin "object.__class__")))
    (xchm_ScrollError : PySem.W.mroIn K C_ScrollError (.type "object") = some true)
    (xcty_ScrollError : PySem.W.typeIn K (.ref C_ScrollError) = some (.type "type"))
    (xckp_ScrollError : PySem.W.keepIn K (.ref C_ScrollError) = true)
    (xcve_ScrollError : PySem.W.subIn K (.ref C_ScrollError) (.type "ValueError") = some true)
    (xcis_ScrollError : PySem.W.isClsIn K C_ScrollError = true)
    (xcself_ScrollError : PySem.W.subIn K (.ref C_ScrollError) (.ref C_ScrollError) = some true)
    (xcex_ScrollError : PySem.W.excIn K C_ScrollError [.type "ValueError", .type "Exception", .type "BaseException", .type "object"] "ValueError.__new__" = true)
    (p_NoFraction_NoFraction : PySem.W.subIn K (.ref C_NoFraction) (.ref C_NoFraction) = some true)
    (p_NoFraction_ScrollError : PySem.W.subIn K (.ref C_NoFraction) (.ref C_ScrollError) = some true)
    (xhn : PySem.W.specialIn K (.builtin "object.__class__") "__get__" = some (some (.builtin "getset_descriptor.__get__"))) (xht : PySem.W.takesIn K (.builtin "object.__class__") = some true)
    (z_abs : PySem.W.nsIn K mainGlobals "abs" = some none)
    (z_isinstance : PySem.W.nsIn K mainGlobals "isinstance" = some none)
    (z_int : PySem.W.nsIn K mainGlobals "int" = some none)
    (z_bool : PySem.W.nsIn K mainGlobals "bool" = some none)
    (z_tuple : PySem.W.nsIn K mainGlobals "tuple" = some none)
    (z_len : PySem.W.nsIn K mainGlobals "len" = some none)
    (z_range : PySem.W.nsIn K mainGlobals "range" = some none)
    (z_ValueError : PySem.W.nsIn K mainGlobals "ValueError" = some none)
    (z_str : PySem.W.nsIn K mainGlobals "str" = some none)
    : ∃ fd : FuncData, (∀ (s : Shared) (v : Value), BindsTo s fd ⟨[v], []⟩ [("_law_script", v)]) ∧ ∀ base : Heap, K.In base → base.Ns mainGlobals mg → FnOk l.prog w K mg base CX0 5 fa fd ["_law_script"] (spTop K) := by
  have e := hfa.symm.trans (PySem.W.mg_of X G a_law)
  cases e
  have F_divisor := fun_mk (st := s_divisor) l_divisor c_divisor k_divisor
  have b_divisor := F_divisor.binds (ps := ["one", "other"]) fun _ _ _ _ _ _ us hl => match us, hl with | [_, _], _ => rfl
  have g_divisor := PySem.W.mg_of X G a_divisor
  have F_is_number := fun_mk (st := s_is_number) l_is_number c_is_number k_is_number
  have b_is_number := F_is_number.binds (ps := ["thing"]) fun _ _ _ _ _ _ us hl => match us, hl with | [_], _ => rfl
  have g_is_number := PySem.W.mg_of X G a_is_number
  have F_fraction := funV_mk (st := s_fraction) (dv := [.int 1 tk_fraction_bottom]) l_fraction c_fraction k_fraction lT_fraction
  have b_fraction := (F_fraction.binds (ps := ["top", "bottom"]) 2 1 rfl (fun _ _ _ _ _ _ _ us hl => match us, hl with | [_, _], _ => ⟨_, rfl, rfl⟩) : L2.Binds K _ ["top", "bottom"] [])
  have b_fraction_1 := (F_fraction.binds (ps := ["top", "bottom"]) 1 0 rfl (fun _ _ _ _ _ _ _ us hl => match us, hl with | [_], _ => ⟨_, rfl, rfl⟩) : L2.Binds K _ ["top", "bottom"] [.int 1 tk_fraction_bottom])
  have g_fraction := PySem.W.mg_of X G a_fraction
  have F_is_fraction := fun_mk (st := s_is_fraction) l_is_fraction c_is_fraction k_is_fraction
  have b_is_fraction := F_is_fraction.binds (ps := ["thing"]) fun _ _ _ _ _ _ us hl => match us, hl with | [_], _ => rfl
  have g_is_fraction := PySem.W.mg_of X G a_is_fraction
  have F_is_moment := fun_mk (st := s_is_moment) l_is_moment c_is_moment k_is_moment
  have b_is_moment := F_is_moment.binds (ps := ["thing"]) fun _ _ _ _ _ _ us hl => match us, hl with | [_], _ => rfl
  have g_is_moment := PySem.W.mg_of X G a_is_moment
  have F_less := fun_mk (st := s_less) l_less c_less k_less
  have b_less := F_less.binds (ps := ["one", "other"]) fun _ _ _ _ _ _ us hl => match us, hl with | [_, _], _ => rfl
  have g_less := PySem.W.mg_of X G a_less
  have F_floor := fun_mk (st := s_floor) l_floor c_floor k_floor
  have b_floor := F_floor.binds (ps := ["one"]) fun _ _ _ _ _ _ us hl => match us, hl with | [_], _ => rfl
  have g_floor := PySem.W.mg_of X G a_floor
  have F__law_cell_at := fun_mk (st := s__law_cell_at) l__law_cell_at c__law_cell_at k__law_cell_at
  have b__law_cell_at := F__law_cell_at.binds (ps := ["_law_script", "_law_k"]) fun _ _ _ _ _ _ us hl => match us, hl with | [_, _], _ => rfl
  have g__law_cell_at := PySem.W.mg_of X G a__law_cell_at
  have F__law_digit := fun_mk (st := s__law_digit) l__law_digit c__law_digit k__law_digit
  have b__law_digit := F__law_digit.binds (ps := ["_law_state", "_law_base"]) fun _ _ _ _ _ _ us hl => match us, hl with | [_, _], _ => rfl
  have g__law_digit := PySem.W.mg_of X G a__law_digit
  have F__law_great := fun_mk (st := s__law_great) l__law_great c__law_great k__law_great
  have b__law_great := F__law_great.binds (ps := ["_law_state"]) fun _ _ _ _ _ _ us hl => match us, hl with | [_], _ => rfl
  have g__law_great := PySem.W.mg_of X G a__law_great
  have F__law_number := fun_mk (st := s__law_number) l__law_number c__law_number k__law_number
  have b__law_number := F__law_number.binds (ps := ["_law_state"]) fun _ _ _ _ _ _ us hl => match us, hl with | [_], _ => rfl
  have g__law_number := PySem.W.mg_of X G a__law_number
  have F__law_shared := fun_mk (st := s__law_shared) l__law_shared c__law_shared k__law_shared
  have b__law_shared := F__law_shared.binds (ps := ["_law_one", "_law_other"]) fun _ _ _ _ _ _ us hl => match us, hl with | [_, _], _ => rfl
  have g__law_shared := PySem.W.mg_of X G a__law_shared
  have F__law_whole := fun_mk (st := s__law_whole) l__law_whole c__law_whole k__law_whole
  have b__law_whole := F__law_whole.binds (ps := ["_law_thing"]) fun _ _ _ _ _ _ us hl => match us, hl with | [_], _ => rfl
  have g__law_whole := PySem.W.mg_of X G a__law_whole
  have F__law_truth := fun_mk (st := s__law_truth) l__law_truth c__law_truth k__law_truth
  have b__law_truth := F__law_truth.binds (ps := ["_law_found", "_law_due"]) fun _ _ _ _ _ _ us hl => match us, hl with | [_, _], _ => rfl
  have g__law_truth := PySem.W.mg_of X G a__law_truth
  have F__law_lowest := fun_mk (st := s__law_lowest) l__law_lowest c__law_lowest k__law_lowest
  have b__law_lowest := F__law_lowest.binds (ps := ["_law_found"]) fun _ _ _ _ _ _ us hl => match us, hl with | [_], _ => rfl
  have g__law_lowest := PySem.W.mg_of X G a__law_lowest
  have F__law_refused := fun_mk (st := s__law_refused) l__law_refused c__law_refused k__law_refused
  have b__law_refused := F__law_refused.binds (ps := ["_law_first", "_law_second"]) fun _ _ _ _ _ _ us hl => match us, hl with | [_, _], _ => rfl
  have g__law_refused := PySem.W.mg_of X G a__law_refused
  have F__law_written_otherwise := fun_mk (st := s__law_written_otherwise) l__law_written_otherwise c__law_written_otherwise k__law_written_otherwise
  have b__law_written_otherwise := F__law_written_otherwise.binds (ps := ["_law_found", "_law_state"]) fun _ _ _ _ _ _ us hl => match us, hl with | [_, _], _ => rfl
  have g__law_written_otherwise := PySem.W.mg_of X G a__law_written_otherwise
  have F__law_right := fun_mk (st := s__law_right) l__law_right c__law_right k__law_right
  have b__law_right := F__law_right.binds (ps := ["_law_found", "_law_first", "_law_second"]) fun _ _ _ _ _ _ us hl => match us, hl with | [_, _, _], _ => rfl
  have g__law_right := PySem.W.mg_of X G a__law_right
  have F_law := fun_mk (st := s_law) l_law c_law k_law
  have b_law := F_law.binds (ps := ["_law_script"]) fun _ _ _ _ _ _ us hl => match us, hl with | [_], _ => rfl
  have g_law := PySem.W.mg_of X G a_law
  have T_NoFraction : ExcR K mg "NoFraction" C_NoFraction := ⟨⟨PySem.W.mg_of X G xca_NoFraction, ⟨xchg_NoFraction, xchk_NoFraction, xchs_NoFraction, xchd_NoFraction, xcha_NoFraction, xhn, xht, xchm_NoFraction⟩, xcty_NoFraction, xckp_NoFraction, xcve_NoFraction, xcis_NoFraction, xcself_NoFraction⟩, xcex_NoFraction⟩
  have T_ScrollError : ExcR K mg "ScrollError" C_ScrollError := ⟨⟨PySem.W.mg_of X G xca_ScrollError, ⟨xchg_ScrollError, xchk_ScrollError, xchs_ScrollError, xchd_ScrollError, xcha_ScrollError, xhn, xht, xchm_ScrollError⟩, xcty_ScrollError, xckp_ScrollError, xcve_ScrollError, xcis_ScrollError, xcself_ScrollError⟩, xcex_ScrollError⟩
  have bI_abs := PySem.W.mg_none_of X G z_abs
  have bI_isinstance := PySem.W.mg_none_of X G z_isinstance
  have bI_int := PySem.W.mg_none_of X G z_int
  have bI_bool := PySem.W.mg_none_of X G z_bool
  have bI_tuple := PySem.W.mg_none_of X G z_tuple
  have bI_len := PySem.W.mg_none_of X G z_len
  have bI_range := PySem.W.mg_none_of X G z_range
  have bI_ValueError := PySem.W.mg_none_of X G z_ValueError
  have bI_str := PySem.W.mg_none_of X G z_str
  have kb_fraction_0_bottom_top : KBinds K (PySem.W.fnOf "fraction" "fraction" (defArgs s_fraction) (defBody s_fraction) (defScope s_fraction) (.ref T_fraction_) kV_fraction dc_fraction pm_fraction an_fraction cd_fraction ct_fraction) ["top", "bottom"] ["bottom", "top"] (fun us ws => match us, ws with | [], [w0, w1] => [w1, w0] | _, _ => []) (fun us ws => match us, ws with | [], [w0, w1] => [w1, w0] | _, _ => []) := by
    refine F_fraction.kb (fun _ _ _ _ _ _ _ us ws hl => ?_) (fun {vs us zs ws} r1 r2 => ?_)
    · skip
      cases us with
      | nil =>
        cases ws with
        | nil => exact absurd (show (0 : Nat) = 2 from hl) (by decide)
        | cons q10 ws =>
          cases ws with
          | nil => exact absurd (show (0 : Nat) = 2 from hl) (by decide)
          | cons q11 ws =>
            cases ws with
            | nil =>
              exact ⟨_, rfl, rfl⟩
            | cons _ _ => exact absurd (show (0 : Nat) = 2 from hl) (by decide)
      | cons _ _ => exact absurd (show (0 : Nat) = 2 from hl) (by decide)
    · skip
      cases r1 with
      | nil =>
        cases r2 with
        | nil => exact .nil
        | cons q10 r2 =>
          cases r2 with
          | nil => exact .nil
          | cons q11 r2 =>
            cases r2 with
            | nil =>
              exact (.cons q11 (.cons q10 .nil))
            | cons _ _ => exact .nil
      | cons _ _ => exact .nil
  refine ⟨_, fun s v => (.of_eq rfl : BindsTo s (PySem.W.fnOf "law" "law" (defArgs s_law) (defBody s_law) (defScope s_law) .none kV_law dc_law pm_law an_law cd_law ct_law) ⟨[v], []⟩ [("_law_script", v)]), fun base _ _ => ?_⟩
  have G_divisor := ok_divisor (Pr := l.prog) (wo := w) (base := base) (mg := mg) F_divisor bI_abs
  have G_is_number := ok_is_number (Pr := l.prog) (wo := w) (base := base) (mg := mg) F_is_number bI_isinstance bI_int bI_bool
  have G_less := ok_less (Pr := l.prog) (wo := w) (base := base) (mg := mg) F_less
  have G_floor := ok_floor (Pr := l.prog) (wo := w) (base := base) (mg := mg) F_floor
  have G__law_cell_at := ok__law_cell_at (Pr := l.prog) (wo := w) (base := base) (mg := mg) F__law_cell_at bI_len
  have G__law_digit := ok__law_digit (Pr := l.prog) (wo := w) (base := base) (mg := mg) F__law_digit bI_len
  have G__law_shared := ok__law_shared (Pr := l.prog) (wo := w) (base := base) (mg := mg) F__law_shared bI_abs
  have G__law_whole := ok__law_whole (Pr := l.prog) (wo := w) (base := base) (mg := mg) F__law_whole bI_isinstance bI_int bI_bool
  have G__law_truth := ok__law_truth (Pr := l.prog) (wo := w) (base := base) (mg := mg) F__law_truth bI_int
  have G_fraction := ok_fraction (Pr := l.prog) (wo := w) (base := base) (mg := mg) F_fraction T_NoFraction g_divisor k_divisor b_divisor G_divisor g_is_number k_is_number b_is_number G_is_number
  have G_is_fraction := ok_is_fraction (Pr := l.prog) (wo := w) (base := base) (mg := mg) F_is_fraction g_divisor k_divisor b_divisor G_divisor g_is_number k_is_number b_is_number G_is_number bI_isinstance bI_tuple bI_len
  have G__law_great := ok__law_great (Pr := l.prog) (wo := w) (base := base) (mg := mg) F__law_great g__law_digit k__law_digit b__law_digit G__law_digit bI_range
  have G__law_lowest := ok__law_lowest (Pr := l.prog) (wo := w) (base := base) (mg := mg) F__law_lowest g__law_whole k__law_whole b__law_whole G__law_whole g__law_shared k__law_shared b__law_shared G__law_shared bI_isinstance bI_tuple bI_len
  have G__law_written_otherwise := ok__law_written_otherwise (Pr := l.prog) (wo := w) (base := base) (mg := mg) F__law_written_otherwise g__law_digit k__law_digit b__law_digit G__law_digit bI_len bI_str
  have G_is_moment := ok_is_moment (Pr := l.prog) (wo := w) (base := base) (mg := mg) F_is_moment g_is_fraction k_is_fraction b_is_fraction G_is_fraction
  have G__law_number := ok__law_number (Pr := l.prog) (wo := w) (base := base) (mg := mg) F__law_number g__law_digit k__law_digit b__law_digit G__law_digit g__law_great k__law_great b__law_great G__law_great
  have G__law_refused := ok__law_refused (Pr := l.prog) (wo := w) (base := base) (mg := mg) F__law_refused T_ScrollError T_NoFraction p_NoFraction_NoFraction p_NoFraction_ScrollError g_fraction k_fraction b_fraction G_fraction bI_isinstance bI_ValueError
  have G__law_right := ok__law_right (Pr := l.prog) (wo := w) (base := base) (mg := mg) F__law_right g_floor k_floor b_floor G_floor g__law_whole k__law_whole b__law_whole G__law_whole g__law_lowest k__law_lowest b__law_lowest G__law_lowest g_is_fraction k_is_fraction b_is_fraction G_is_fraction g__law_truth k__law_truth b__law_truth G__law_truth g_is_moment k_is_moment b_is_moment G_is_moment
  have G_law := ok_law (Pr := l.prog) (wo := w) (base := base) (mg := mg) F_law g__law_number k__law_number b__law_number G__law_number g_fraction k_fraction b_fraction G_fraction g__law_written_otherwise k__law_written_otherwise b__law_written_otherwise G__law_written_otherwise g__law_cell_at k__law_cell_at b__law_cell_at G__law_cell_at g__law_digit k__law_digit b__law_digit G__law_digit g__law_refused k__law_refused b__law_refused G__law_refused g__law_right k__law_right b__law_right G__law_right g__law_truth k__law_truth b__law_truth G__law_truth g_is_fraction k_is_fraction b_is_fraction G_is_fraction g_is_moment k_is_moment b_is_moment G_is_moment g_less k_less b_less G_less kb_fraction_0_bottom_top b_fraction_1
  exact G_law.imp fun vs H Q E h => top_of law_ok h
end A
open PySem PySem.W PyProof.Rows
set_option maxRecDepth 100000 in
set_option maxHeartbeats 0 in
theorem PySem.Challenge.cw_lanescroll_k01_fractions_made_holds : PySem.Challenge.rw_lanescroll_k01_fractions_made.Holds := by
  w_on; o_law; k_head; (case hw => w_witness2)
  k_fill
  refine Y.walk_top (l := PySem.Challenge.rw_lanescroll_k01_fractions_made) (k := 5) (x := "_law_script") rfl rfl ⟨rfl, by decide, by decide⟩ (fun w h Y => PySem.W.kIn_of Y) ?F
  case F =>
    intro w mg fa h KX G hmg
    refine' A.all_mk KX G hmg ?a_divisor ?l_divisor ?c_divisor ?k_divisor ?a_is_number ?l_is_number ?c_is_number ?k_is_number ?a_fraction ?l_fraction ?c_fraction ?k_fraction ?lT_fraction ?a_is_fraction ?l_is_fraction ?c_is_fraction ?k_is_fraction ?a_is_moment ?l_is_moment ?c_is_moment ?k_is_moment ?a_less ?l_less ?c_less ?k_less ?a_floor ?l_floor ?c_floor ?k_floor ?a__law_cell_at ?l__law_cell_at ?c__law_cell_at ?k__law_cell_at ?a__law_digit ?l__law_digit ?c__law_digit ?k__law_digit ?a__law_great ?l__law_great ?c__law_great ?k__law_great ?a__law_number ?l__law_number ?c__law_number ?k__law_number ?a__law_shared ?l__law_shared ?c__law_shared ?k__law_shared ?a__law_whole ?l__law_whole ?c__law_whole ?k__law_whole ?a__law_truth ?l__law_truth ?c__law_truth ?k__law_truth ?a__law_lowest ?l__law_lowest ?c__law_lowest ?k__law_lowest ?a__law_refused ?l__law_refused ?c__law_refused ?k__law_refused ?a__law_written_otherwise ?l__law_written_otherwise ?c__law_written_otherwise ?k__law_written_otherwise ?a__law_right ?l__law_right ?c__law_right ?k__law_right ?a_law ?l_law ?c_law ?k_law ?xca_NoFraction ?xchg_NoFraction ?xchk_NoFraction ?xchs_NoFraction ?xchd_NoFraction ?xcha_NoFraction ?xchm_NoFraction ?xcty_NoFraction ?xckp_NoFraction ?xcve_NoFraction ?xcis_NoFraction ?xcself_NoFraction ?xcex_NoFraction ?xca_ScrollError ?xchg_ScrollError ?xchk_ScrollError ?xchs_ScrollError ?xchd_ScrollError ?xcha_ScrollError ?xchm_ScrollError ?xcty_ScrollError ?xckp_ScrollError ?xcve_ScrollError ?xcis_ScrollError ?xcself_ScrollError ?xcex_ScrollError ?p_NoFraction_NoFraction ?p_NoFraction_ScrollError ?xhn ?xht ?z_abs ?z_isinstance ?z_int ?z_bool ?z_tuple ?z_len ?z_range ?z_ValueError ?z_str
    (case a_divisor => k_is)
    (case l_divisor => k_is)
    (case c_divisor => k_is)
    (case k_divisor => k_is)
    (case a_is_number => k_is)
    (case l_is_number => k_is)
    (case c_is_number => k_is)
    (case k_is_number => k_is)
    (case a_fraction => k_is)
    (case l_fraction => k_is)
    (case c_fraction => k_is)
    (case k_fraction => k_is)
    (case lT_fraction => k_is)
    (case a_is_fraction => k_is)
    (case l_is_fraction => k_is)
    (case c_is_fraction => k_is)
    (case k_is_fraction => k_is)
    (case a_is_moment => k_is)
    (case l_is_moment => k_is)
    (case c_is_moment => k_is)
    (case k_is_moment => k_is)
    (case a_less => k_is)
    (case l_less => k_is)
    (case c_less => k_is)
    (case k_less => k_is)
    (case a_floor => k_is)
    (case l_floor => k_is)
    (case c_floor => k_is)
    (case k_floor => k_is)
    (case a__law_cell_at => k_is)
    (case l__law_cell_at => k_is)
    (case c__law_cell_at => k_is)
    (case k__law_cell_at => k_is)
    (case a__law_digit => k_is)
    (case l__law_digit => k_is)
    (case c__law_digit => k_is)
    (case k__law_digit => k_is)
    (case a__law_great => k_is)
    (case l__law_great => k_is)
    (case c__law_great => k_is)
    (case k__law_great => k_is)
    (case a__law_number => k_is)
    (case l__law_number => k_is)
    (case c__law_number => k_is)
    (case k__law_number => k_is)
    (case a__law_shared => k_is)
    (case l__law_shared => k_is)
    (case c__law_shared => k_is)
    (case k__law_shared => k_is)
    (case a__law_whole => k_is)
    (case l__law_whole => k_is)
    (case c__law_whole => k_is)
    (case k__law_whole => k_is)
    (case a__law_truth => k_is)
    (case l__law_truth => k_is)
    (case c__law_truth => k_is)
    (case k__law_truth => k_is)
    (case a__law_lowest => k_is)
    (case l__law_lowest => k_is)
    (case c__law_lowest => k_is)
    (case k__law_lowest => k_is)
    (case a__law_refused => k_is)
    (case l__law_refused => k_is)
    (case c__law_refused => k_is)
    (case k__law_refused => k_is)
    (case a__law_written_otherwise => k_is)
    (case l__law_written_otherwise => k_is)
    (case c__law_written_otherwise => k_is)
    (case k__law_written_otherwise => k_is)
    (case a__law_right => k_is)
    (case l__law_right => k_is)
    (case c__law_right => k_is)
    (case k__law_right => k_is)
    (case a_law => k_is)
    (case l_law => k_is)
    (case c_law => k_is)
    (case k_law => k_is)
    (case xca_NoFraction => k_is)
    (case xchg_NoFraction => k_is)
    (case xchk_NoFraction => k_is)
    (case xchs_NoFraction => k_is)
    (case xchd_NoFraction => k_is)
    (case xcha_NoFraction => k_is)
    (case xchm_NoFraction => k_is)
    (case xcty_NoFraction => k_is)
    (case xckp_NoFraction => k_is)
    (case xcve_NoFraction => k_is)
    (case xcis_NoFraction => k_is)
    (case xcself_NoFraction => k_is)
    (case xcex_NoFraction => k_exc)
    (case xca_ScrollError => k_is)
    (case xchg_ScrollError => k_is)
    (case xchk_ScrollError => k_is)
    (case xchs_ScrollError => k_is)
    (case xchd_ScrollError => k_is)
    (case xcha_ScrollError => k_is)
    (case xchm_ScrollError => k_is)
    (case xcty_ScrollError => k_is)
    (case xckp_ScrollError => k_is)
    (case xcve_ScrollError => k_is)
    (case xcis_ScrollError => k_is)
    (case xcself_ScrollError => k_is)
    (case xcex_ScrollError => k_exc)
    (case p_NoFraction_NoFraction => k_is)
    (case p_NoFraction_ScrollError => k_is)
    (case xhn => k_is)
    (case xht => k_is)
    (case z_abs => k_is)
    (case z_isinstance => k_is)
    (case z_int => k_is)
    (case z_bool => k_is)
    (case z_tuple => k_is)
    (case z_len => k_is)
    (case z_range => k_is)
    (case z_ValueError => k_is)
    (case z_str => k_is)
