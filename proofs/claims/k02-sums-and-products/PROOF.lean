import PyProof.Rows.All
import Wide.All
import OpenK.AllK
import Wide.FinOn
import HandS.ForMost
import HandS.Evl
import HandS.IsInst
import HandS.Flow
import HandS.Defaults
import HandS.Wide
import HandS.WideMore
import HandS.Style
import HandS.ForExc
import HandS.TryOnly
import HandS.CallSlots
import HandS.ExcIs
import PySem.Challenge.RW_lanescroll_k02_sums_and_products
set_option Elab.async false
set_option linter.all false
set_option maxRecDepth 100000
set_option maxHeartbeats 2000000
namespace Y
open PySem PySem.Spec PyProof.Rows
open L2

/-- data: what a value stands for, through the heap -/
inductive D where
  | non | bl (b : Bool) | int (i : Int) | str (x : Str)
  | lst (ds : List D) | tup (ds : List D) | dic (kvs : List (Key × D))

abbrev Ex (H H' : Hp) : Prop := ∀ a o, H a = some o → H' a = some o
theorem Ex.refl (H : Hp) : Ex H H := fun _ _ h => h
theorem Ex.trans {H H1 H2 : Hp} (a : Ex H H1) (b : Ex H1 H2) : Ex H H2 := fun x o h => b x o (a x o h)
theorem Ex.new {H : Hp} {p : Addr} {o : HO} (h : H p = none) : Ex H (upd H p o) := fun a u e => by
  rw [upd_ne (ne_of_none e h)]
  exact e
theorem Ex.upd {B H : Hp} {p : Addr} {o : HO} (e : Ex B H) (h : B p = none) : Ex B (upd H p o) := fun a u ha => by
  rw [upd_ne (ne_of_none ha h)]
  exact e a u ha
theorem Ex.both {B H : Hp} {p : Addr} {o : HO} (e : Ex B H) : Ex (L2.upd B p o) (L2.upd H p o) := fun a u ha => by
  by_cases q : a = p
  · subst q; rw [upd_same] at ha; cases ha; exact upd_same
  · rw [upd_ne q] at ha; rw [upd_ne q]; exact e a u ha
theorem Ex.none {H H' : Hp} {p : Addr} (e : Ex H H') (h : H' p = none) : H p = none := by
  cases h1 : H p with
  | none => rfl
  | some o => rw [e p o h1] at h; cases h
theorem Ex.rd {H H' : Hp} {a : Addr} {u : HO} (e : Ex H H') (h : Rd H a u) : Rd H' a u := by
  rcases h with h | ⟨o, h⟩
  · exact Or.inl (e a _ h)
  · exact Or.inr ⟨o, e a _ h⟩
theorem Ex.l {K : PySem.W.Frag} {H H' : Hp} {a : Addr} {xs : List V} (e : Ex H H') (h : SqL K H a xs) : SqL K H' a xs := by
  rcases h with h | h
  · exact Or.inl (e.rd h)
  · exact Or.inr h
theorem Ex.t {K : PySem.W.Frag} {H H' : Hp} {a : Addr} {xs : List V} (e : Ex H H') (h : SqT K H a xs) : SqT K H' a xs := by
  rcases h with h | h
  · exact Or.inl (e.rd h)
  · exact Or.inr h

mutual
/-- v stands for d -/
inductive Rep (K : PySem.W.Frag) (B : Hp) : V → D → Prop where
  | non : Rep K B .non .non
  | bl (b : Bool) : Rep K B (.bl b) (.bl b)
  | int (i : Int) : Rep K B (.int i) (.int i)
  | str (x : Str) : Rep K B (.str x) (.str x)
  | lst {p : Addr} {xs : List V} {ds : List D} (h : SqL K B p xs) (r : RepL K B xs ds) : Rep K B (.ref p) (.lst ds)
  | tup {p : Addr} {xs : List V} {ds : List D} (h : SqT K B p xs) (r : RepL K B xs ds) : Rep K B (.ref p) (.tup ds)
  | dic {p : Addr} {kvs : List (Key × V)} {ds : List (Key × D)} (h : B p = some (.dK kvs)) (r : RepK K B kvs ds) : Rep K B (.ref p) (.dic ds)
inductive RepL (K : PySem.W.Frag) (B : Hp) : List V → List D → Prop where
  | nil : RepL K B [] []
  | cons {v : V} {d : D} {vs : List V} {ds : List D} (h : Rep K B v d) (t : RepL K B vs ds) : RepL K B (v :: vs) (d :: ds)
inductive RepK (K : PySem.W.Frag) (B : Hp) : List (Key × V) → List (Key × D) → Prop where
  | nil : RepK K B [] []
  | cons {k : Key} {v : V} {d : D} {vs : List (Key × V)} {ds : List (Key × D)} (h : Rep K B v d) (t : RepK K B vs ds) : RepK K B ((k, v) :: vs) ((k, d) :: ds)
end
section
variable {K : PySem.W.Frag} {B B' H : Hp}
mutual
theorem Rep.mono (e : Ex B B') : ∀ {v : V} {d : D}, Rep K B v d → Rep K B' v d
  | _, _, .non => .non
  | _, _, .bl b => .bl b
  | _, _, .int i => .int i
  | _, _, .str x => .str x
  | _, _, .lst h r => .lst (e.l h) (RepL.mono e r)
  | _, _, .tup h r => .tup (e.t h) (RepL.mono e r)
  | _, _, .dic h r => .dic (e _ _ h) (RepK.mono e r)
theorem RepL.mono (e : Ex B B') : ∀ {vs : List V} {ds : List D}, RepL K B vs ds → RepL K B' vs ds
  | _, _, .nil => .nil
  | _, _, .cons h t => .cons (Rep.mono e h) (RepL.mono e t)
theorem RepK.mono (e : Ex B B') : ∀ {vs : List (Key × V)} {ds : List (Key × D)}, RepK K B vs ds → RepK K B' vs ds
  | _, _, .nil => .nil
  | _, _, .cons h t => .cons (Rep.mono e h) (RepK.mono e t)
end
theorem RepL.length : ∀ {vs : List V} {ds : List D}, RepL K B vs ds → vs.length = ds.length
  | _, _, .nil => rfl
  | _, _, .cons _ t => congrArg Nat.succ (RepL.length t)
theorem RepL.get : ∀ {vs : List V} {ds : List D} {i : Nat} {d : D}, RepL K B vs ds → ds[i]? = some d → ∃ v, vs[i]? = some v ∧ Rep K B v d
  | _, _, _, _, .nil, e => by simp at e
  | _, _, 0, _, .cons r _, e => by simp at e; subst e; exact ⟨_, rfl, r⟩
  | _, _, i + 1, x, .cons _ t, e => by
    obtain ⟨u, h1, h2⟩ := RepL.get (i := i) (d := x) t (by simpa using e)
    exact ⟨u, by simpa using h1, h2⟩
theorem RepL.append : ∀ {vs ws : List V} {ds es : List D}, RepL K B vs ds → RepL K B ws es → RepL K B (vs ++ ws) (ds ++ es)
  | _, _, _, _, .nil, s => s
  | _, _, _, _, .cons r t, s => .cons r (RepL.append t s)
theorem RepL.at {vs : List V} {ds : List D} {i : Int} {d : D} (r : RepL K B vs ds) (h : atI ds i = some d) : ∃ v, atI vs i = some v ∧ Rep K B v d := by
  unfold atI at h ⊢
  rw [r.length]
  cases e : ixN ds.length i with
  | none => rw [e] at h; cases h
  | some j => rw [e] at h; exact r.get h
theorem RepL.ints : ∀ (ns : List Int), RepL K B (ns.map V.int) (ns.map D.int)
  | [] => .nil
  | n :: r => .cons (.int n) (RepL.ints r)
theorem RepL.of_ints : ∀ {vs : List V} {ns : List Int}, RepL K B vs (ns.map D.int) → vs = ns.map V.int
  | [], [], _ => rfl
  | _ :: _, [], r => nomatch r
  | [], _ :: _, r => nomatch r
  | v :: vs, n :: ns, r => by
    cases r with
    | cons h t =>
      cases h
      rw [RepL.of_ints t]
      rfl
end

/-- from (B, H), what is known and the heap, to (B', H'), writing at most at W -/
structure Stp (W : List Addr) (B H B' H' : Hp) : Prop where
  ex : Ex B B'
  ok : Ex B' H'
  fr : ∀ a o, a ∉ W → H a = some o → H' a = some o
  al : ∀ a o, H a = some o → ∃ o', H' a = some o'
  nw : ∀ a o, B a = none → H a = some o → B' a = none
section
variable {W W' : List Addr} {B H B' H' B1 H1 B2 H2 : Hp} {p : Addr} {o : HO}
theorem Stp.refl (w : Ex B H) : Stp W B H B H := ⟨Ex.refl B, w, fun _ _ _ h => h, fun _ o h => ⟨o, h⟩, fun _ _ h _ => h⟩
theorem Stp.trans (a : Stp W B H B1 H1) (b : Stp W B1 H1 B2 H2) : Stp W B H B2 H2 :=
  ⟨a.ex.trans b.ex, b.ok, fun x o hx h => b.fr x o hx (a.fr x o hx h), fun x o h => let ⟨o1, h1⟩ := a.al x o h; b.al x o1 h1, fun x o hb h => let ⟨o1, h1⟩ := a.al x o h; b.nw x o1 (a.nw x o hb h) h1⟩
theorem Stp.w (a : Stp W B H B1 H1) (h : ∀ x, x ∈ W → x ∈ W') : Stp W' B H B1 H1 := ⟨a.ex, a.ok, fun x o hx e => a.fr x o (fun z => hx (h x z)) e, a.al, a.nw⟩
theorem Stp.w0 (a : Stp [] B H B1 H1) : Stp W B H B1 H1 := a.w fun _ h => nomatch h
/-- a new object that stays -/
theorem Stp.new (w : Ex B H) (h : H p = none) : Stp W B H (upd B p o) (upd H p o) :=
  ⟨Ex.new (w.none h), w.both, fun a u _ e => Ex.new h a u e, fun a u e => ⟨u, Ex.new h a u e⟩, fun a u hb e => by rw [upd_ne (ne_of_none e h)]; exact hb⟩
/-- a new object that may change -/
theorem Stp.newM (w : Ex B H) (h : H p = none) : Stp W B H B (upd H p o) :=
  ⟨Ex.refl B, w.upd (w.none h), fun a u _ e => Ex.new h a u e, fun a u e => ⟨u, Ex.new h a u e⟩, fun a u hb _ => hb⟩
/-- a changed object of W -/
theorem Stp.set (w : Ex B H) (hp : p ∈ W) (hb : B p = none) {u : HO} (hu : H p = some u) : Stp W B H B (upd H p o) :=
  ⟨Ex.refl B, w.upd hb, fun a u hx e => by rw [upd_ne (fun z => hx (by rw [z]; exact hp))]; exact e, fun a u e => by
    by_cases q : a = p
    · subst q; exact ⟨o, upd_same⟩
    · exact ⟨u, by rw [upd_ne q]; exact e⟩, fun _ _ h _ => h⟩
/-- an object of our own, made behind the entry, changed -/
theorem Stp.own (a : Stp W B H B1 H1) (h0 : H p = none) (hb : B1 p = none) (h : ∃ u, H1 p = some u) : Stp W B H B1 (upd H1 p o) :=
  ⟨a.ex, a.ok.upd hb, fun x u hx e => by rw [upd_ne (ne_of_none e h0)]; exact a.fr x u hx e, fun x u e => by
    rw [upd_ne (ne_of_none e h0)]; exact a.al x u e, a.nw⟩
/-- an object of our own turns into one that stays -/
theorem Stp.keep (w : Ex B H) (a : Stp W B H B1 H1) (h0 : H p = none) (hb : B1 p = none) (h : H1 p = some o) : Stp W B H (upd B1 p o) H1 :=
  ⟨fun x u e => by rw [upd_ne (ne_of_none e (w.none h0))]; exact a.ex x u e, fun x u e => by
    by_cases q : x = p
    · subst q; rw [upd_same] at e; cases e; exact h
    · rw [upd_ne q] at e; exact a.ok x u e, a.fr, a.al, fun x u hb e => by rw [upd_ne (ne_of_none e h0)]; exact a.nw x u hb e⟩
end
/-! ### mirrors -/
/-- an error that is raised: the class's name, what it is told -/
structure Err where
  cls : Str
  args : List D := []
/-- what a mirror gives: a value, an error, or a place that the model does not serve -/
inductive Res (α : Type) where
  | ok (a : α) | err (e : Err) | stuck
def Res.bind {α β : Type} (m : Res α) (k : α → Res β) : Res β := match m with | .ok a => k a | .err e => .err e | .stuck => .stuck
/-- an error that nobody waits for -/
def Res.noErr {α : Type} (m : Res α) : Res α := match m with | .ok a => .ok a | _ => .stuck
instance : Monad Res where
  pure := Res.ok
  bind := Res.bind
def Post0 {α : Type} (m : Res α) (P : α → Prop) (R : Err → Prop) : Prop := match m with | .ok a => P a | .err e => R e | .stuck => False
/-- what the mirror gives is wished for: a structure, so that nothing looks into it -/
structure Post {α : Type} (m : Res α) (P : α → Prop) (R : Err → Prop) : Prop where
  h0 : Post0 m P R
section
variable {α β : Type} {m : Res α} {P P' : α → Prop} {R R' : Err → Prop} {a : α}
theorem Post.mono (h : Post m P R) (hp : ∀ a, P a → P' a) (hr : ∀ e, R e → R' e) : Post m P' R' := by
  obtain ⟨h⟩ := h
  refine ⟨?_⟩
  cases m with
  | ok a => exact hp a h
  | err e => exact hr e h
  | stuck => exact h
theorem Post.bind {k : α → Res β} {P : β → Prop} (h : Post (m.bind k) P R) : Post m (fun a => Post (k a) P R) R := by
  obtain ⟨h⟩ := h
  refine ⟨?_⟩
  cases m
  · exact ⟨h⟩
  · exact h
  · exact h
theorem Post.noErr (h : Post m.noErr P R) : Post m P (fun _ => False) := by
  obtain ⟨h⟩ := h
  refine ⟨?_⟩
  cases m with
  | ok a => exact h
  | err e => exact h
  | stuck => exact h
theorem Post.ok (h : Post (.ok a) P R) : P a := h.h0
theorem Post.err {e : Err} (h : Post (.err e : Res α) P R) : R e := h.h0
theorem Post.elim {C : Prop} (h : Post (.stuck : Res α) P R) : C := False.elim h.h0
theorem Post.mk' (h : P a) : Post (.ok a) P R := ⟨h⟩
theorem Post.iteT {c : Bool} {m m' : Res α} (h : Post (if c = true then m else m') P R) (hc : c = true) : Post m P R := by
  rw [if_pos hc] at h; exact h
theorem Post.iteF {c : Bool} {m m' : Res α} (h : Post (if c = true then m else m') P R) (hc : c = false) : Post m' P R := by
  rw [hc, if_neg Bool.false_ne_true] at h; exact h
theorem Post.is {m' : Res α} (h : Post m P R) (e : m = m') : Post m' P R := e ▸ h
end
/-- an item -/
def ixR {α : Type} (l : List α) (i : Int) : Res α := match atI l i with | some x => .ok x | none => .stuck
theorem Post.ix {α β : Type} {l : List α} {i : Int} {k : α → Res β} {P : β → Prop} {R : Err → Prop} (h : Post ((ixR l i).bind k) P R) : ∃ x, atI l i = some x ∧ Post (k x) P R := by
  unfold ixR at h
  cases e : atI l i with
  | none => rw [e] at h; exact h.elim
  | some x => rw [e] at h; exact ⟨x, rfl, h⟩
/-- where c holds -/
def guardR {α : Type} (c : Prop) [Decidable c] (m : Res α) : Res α := if c then m else .stuck
theorem Post.guard {α : Type} {c : Prop} [Decidable c] {m : Res α} {P : α → Prop} {R : Err → Prop} (h : Post (guardR c m) P R) : c ∧ Post m P R := by
  unfold guardR at h
  by_cases e : c
  · rw [if_pos e] at h; exact ⟨e, h⟩
  · rw [if_neg e] at h; exact h.elim
instance (i j : Int) : Decidable (CMulW i j) := by unfold CMulW; infer_instance
instance (i j : Int) : Decidable (CDivW i j) := by unfold CDivW; infer_instance
/-- a loop's turn: on, or a value that is returned, or out -/
inductive Fl (S R : Type) where
  | nx (s : S) | rt (r : R) | bk (s : S)
def forR {α S R : Type} : List α → S → (α → S → Res (Fl S R)) → Res (Fl S R)
  | [], s, _ => .ok (.nx s)
  | x :: xs, s, f => (f x s).bind fun r => match r with | .nx s' => forR xs s' f | r => .ok r
theorem Post.forS {α S R : Type} {l : List α} {i : Nat} {s : S} {f : α → S → Res (Fl S R)} {P : Fl S R → Prop} {E : Err → Prop} {x : α} (h : Post (forR (l.drop i) s f) P E) (hx : l[i]? = some x) :
    Post (f x s) (fun r => match r with | .nx s' => Post (forR (l.drop (i + 1)) s' f) P E | .rt v => P (.rt v) | .bk s' => P (.bk s')) E := by
  obtain ⟨hi, e⟩ := List.getElem?_eq_some_iff.mp hx
  rw [List.drop_eq_getElem_cons hi, e] at h
  exact (Post.bind h).mono (fun r q => by
    cases r
    · exact q
    · exact q.ok
    · exact q.ok) fun _ q => q
theorem Post.forN {α S R : Type} {l : List α} {i : Nat} {s : S} {f : α → S → Res (Fl S R)} {P : Fl S R → Prop} {E : Err → Prop} (h : Post (forR (l.drop i) s f) P E) (hi : l.length ≤ i) : P (.nx s) := by
  rw [List.drop_eq_nil_of_le hi] at h
  exact h.ok

/-! ### what stands for data -/
class Enc (α : Type) where
  enc : α → D
open Enc (enc)
structure Tp1 (α : Type) where
  a : α
structure Tp2 (α β : Type) where
  a : α
  b : β
structure Tp3 (α β γ : Type) where
  a : α
  b : β
  c : γ
structure Tp4 (α β γ δ : Type) where
  a : α
  b : β
  c : γ
  d : δ
structure Tp5 (α β γ δ ε : Type) where
  a : α
  b : β
  c : γ
  d : δ
  e : ε
instance : Enc Int := ⟨.int⟩
instance : Enc Bool := ⟨.bl⟩
instance : Enc Str := ⟨.str⟩
instance : Enc Unit := ⟨fun _ => .non⟩
instance : Enc D := ⟨id⟩
instance {α : Type} [Enc α] : Enc (List α) := ⟨fun l => .lst (l.map enc)⟩
instance {α : Type} [Enc α] : Enc (Option α) := ⟨fun o => match o with | some x => enc x | none => .non⟩
instance {α : Type} [Enc α] : Enc (Tp1 α) := ⟨fun t => .tup [enc t.a]⟩
instance {α β : Type} [Enc α] [Enc β] : Enc (Tp2 α β) := ⟨fun t => .tup [enc t.a, enc t.b]⟩
instance {α β γ : Type} [Enc α] [Enc β] [Enc γ] : Enc (Tp3 α β γ) := ⟨fun t => .tup [enc t.a, enc t.b, enc t.c]⟩
instance {α β γ δ : Type} [Enc α] [Enc β] [Enc γ] [Enc δ] : Enc (Tp4 α β γ δ) := ⟨fun t => .tup [enc t.a, enc t.b, enc t.c, enc t.d]⟩
instance {α β γ δ ε : Type} [Enc α] [Enc β] [Enc γ] [Enc δ] [Enc ε] : Enc (Tp5 α β γ δ ε) := ⟨fun t => .tup [enc t.a, enc t.b, enc t.c, enc t.d, enc t.e]⟩

/-- a list that may change: at p, outside of what is known for good -/
def Mu (K : PySem.W.Frag) (B H : Hp) (p : Addr) (ds : List D) : Prop := B p = none ∧ ∃ xs, H p = some (.lst xs) ∧ RepL K B xs ds
/-- a list that stands in the written part -/
def KL (K : PySem.W.Frag) (a : Addr) (xs : List V) : Prop := ∃ (o : Obj) (its : Array Value) (n : Nat), K.lookup a = some o ∧ o.cls = .type "list" ∧ o.dict = none ∧ o.data = .seq its n ∧ its.size ≤ sizeLine ∧ Vals xs its.toList
/-- a list that is read: at v now -/
def Bor (K : PySem.W.Frag) (B H : Hp) (W : List Addr) (v : V) (ds : List D) : Prop := ∃ p xs, v = .ref p ∧ ((Rd H p (.lst xs) ∧ p ∉ W) ∨ KL K p xs) ∧ RepL K B xs ds
/-- what a return hands on -/
def Ret (K : PySem.W.Frag) (W : List Addr) (B H : Hp) (d : D) (Q : VK) : Prop := ∀ v B' H', Stp W B H B' H' → Rep K B' v d → Q v H'
/-- .. where the list at p may have changed -/
def RetM (K : PySem.W.Frag) (p : Addr) (B H : Hp) (d : D) (ds : List D) (Q : VK) : Prop := ∀ v B' H', Stp [p] B H B' H' → Mu K B' H' p ds → Rep K B' v d → Q v H'
/-- .. that is raised -/
def Rai (mg : Str → Option Value) (W : List Addr) (B H : Hp) (e : Err) (E : XK) : Prop := ∀ C B' H', mg e.cls = some (.ref C) → Stp W B H B' H' → E (.ref C) none H'
section
variable {K : PySem.W.Frag} {B B' B1 H H' H1 : Hp} {W : List Addr} {p q : Addr} {ds es : List D} {xs : List V} {d : D} {v : V} {Q : VK} {mg : Str → Option Value} {E : XK}
theorem Mu.step (m : Mu K B H p ds) (s : Stp W B H B' H') (h : p ∉ W) : Mu K B' H' p ds := by
  obtain ⟨hb, xs, hp, r⟩ := m
  exact ⟨s.nw p _ hb hp, xs, s.fr p _ h hp, r.mono s.ex⟩
theorem Mu.new (w : Ex B H) (h : H p = none) (r : RepL K B xs ds) : Mu K B (upd H p (.lst xs)) p ds := ⟨w.none h, xs, upd_same, r⟩
theorem Mu.bor (m : Mu K B H p ds) (h : p ∉ W) : Bor K B H W (.ref p) ds := by
  obtain ⟨hb, xs, hp, r⟩ := m
  exact ⟨p, xs, rfl, .inl ⟨.inl hp, h⟩, r⟩
theorem Mu.ne (m : Mu K B H p ds) (h : H q = none) : p ≠ q := by
  obtain ⟨hb, xs, hp, r⟩ := m
  exact ne_of_none hp h
theorem Bor.step (m : Bor K B H W v ds) (s : Stp W B H B' H') : Bor K B' H' W v ds := by
  obtain ⟨p, xs, e, hp, r⟩ := m
  refine ⟨p, xs, e, ?_, r.mono s.ex⟩
  rcases hp with ⟨hp | ⟨o, hp⟩, hw⟩ | hp
  · exact .inl ⟨.inl (s.fr p _ hw hp), hw⟩
  · exact .inl ⟨.inr ⟨o, s.fr p _ hw hp⟩, hw⟩
  · exact .inr hp
theorem Bor.w {W' : List Addr} (m : Bor K B H W v ds) (h : ∀ x, x ∈ W' → x ∈ W) : Bor K B H W' v ds := by
  obtain ⟨p, xs, e, hp, r⟩ := m
  refine ⟨p, xs, e, ?_, r⟩
  rcases hp with ⟨hp, hw⟩ | hp
  · exact .inl ⟨hp, fun z => hw (h p z)⟩
  · exact .inr hp
theorem Bor.sq (m : Bor K B H W v ds) : ∃ p xs, v = .ref p ∧ SqL K H p xs ∧ RepL K B xs ds := by
  obtain ⟨p, xs, e, hp, r⟩ := m
  refine ⟨p, xs, e, ?_, r⟩
  rcases hp with ⟨hp, _⟩ | hp
  · exact .inl hp
  · exact .inr hp
theorem Rep.bor (w : Ex B H) (r : Rep K B v (.lst ds)) (h : ∀ x, x ∈ W → B x = none) : Bor K B H W v ds := by
  cases r with
  | @lst p xs _ hp r =>
    refine ⟨p, xs, rfl, ?_, r⟩
    rcases hp with hp | hp
    · refine .inl ⟨w.rd hp, fun z => ?_⟩
      have e := h p z
      rcases hp with hp | ⟨o, hp⟩
      · rw [hp] at e; cases e
      · rw [hp] at e; cases e
    · exact .inr hp
theorem Rep.bor0 (w : Ex B H) (r : Rep K B v (.lst ds)) : Bor K B H [] v ds := r.bor w (fun _ z => nomatch z)
theorem Rep.sq (w : Ex B H) (r : Rep K B v (.lst ds)) : ∃ p xs, v = .ref p ∧ SqL K H p xs ∧ RepL K B xs ds := by
  cases r with
  | @lst p xs _ hp r => exact ⟨p, xs, rfl, w.l hp, r⟩
theorem Rep.st (w : Ex B H) (r : Rep K B v (.tup ds)) : ∃ p xs, v = .ref p ∧ SqT K H p xs ∧ RepL K B xs ds := by
  cases r with
  | @tup p xs _ hp r => exact ⟨p, xs, rfl, w.t hp, r⟩
theorem Mu.sq (m : Mu K B H p ds) : ∃ xs, H p = some (.lst xs) ∧ SqL K H p xs ∧ RepL K B xs ds := by
  obtain ⟨hb, xs, hp, r⟩ := m
  exact ⟨xs, hp, SqL.of hp, r⟩
theorem Stp.mut (w : Ex B H) (m : Mu K B H p ds) (r : RepL K B xs es) : Stp [p] B H B (upd H p (.lst xs)) ∧ Mu K B (upd H p (.lst xs)) p es := by
  obtain ⟨hb, ys, hp, _⟩ := m
  exact ⟨Stp.set w (by simp) hb hp, hb, xs, upd_same, r⟩
end
/-- the built-in type of a thing -/
def tyD : D → String
  | .non => "NoneType" | .bl _ => "bool" | .int _ => "int" | .str _ => "str" | .lst _ => "list" | .tup _ => "tuple" | .dic _ => "dict"
theorem Rep.ty {K : PySem.W.Frag} {B H : Hp} {v : V} {d : D} (w : Ex B H) (r : Rep K B v d) : TyX K H v (.type (tyD d)) := by
  cases r with
  | non => exact .base .non
  | bl b => exact .base (.bl b)
  | int i => exact .base (.int i)
  | str x => exact .base (.str x)
  | lst h r =>
    rcases h with (h | ⟨o, h⟩) | ⟨o, its, n, h, hc, _⟩
    · exact .base (.lst (w _ _ h))
    · exact .base (.frz (w _ _ h))
    · exact .kList h hc
  | tup h r =>
    rcases h with (h | ⟨o, h⟩) | ⟨o, its, n, h, hc, _⟩
    · exact .base (.tup (w _ _ h))
    · exact .fTuple (w _ _ h)
    · exact .kTuple h hc
  | dic h r => exact .base (.dK (w _ _ h))
def isS (s t : String) : Bool := s == t || (s == "bool" && t == "int")
def isA (t : String) (d : D) : Bool := isS (tyD d) t
theorem kit_tab : ∀ s ∈ ["NoneType", "bool", "int", "str", "list", "tuple", "dict"], ∀ t ∈ ["bool", "int", "str", "list", "tuple", "dict"], kitB s t = some (isS s t) := by decide +kernel
theorem tyD_in (d : D) : tyD d ∈ ["NoneType", "bool", "int", "str", "list", "tuple", "dict"] := by cases d <;> simp [tyD]
/-- isinstance(x, int | bool | str | list | tuple | dict) -/
theorem isi {K : PySem.W.Frag} {B H : Hp} {v : V} {d : D} {t : String} {Q : VK} (w : Ex B H) (r : Rep K B v d) (q : Q (.bl (isA t d)) H) (ht : t ∈ ["bool", "int", "str", "list", "tuple", "dict"] := by simp) : rIsi K [v, .ty t] H Q :=
  ⟨v, .ty t, _, .type t, isA t d, rfl, .ty t, r.ty w, kit_ty (kit_tab _ (tyD_in d) _ ht), q⟩
theorem boot_bool : bootBuiltins "bool" = some (.type "bool") := by decide +kernel
theorem boot_int : bootBuiltins "int" = some (.type "int") := by decide +kernel
theorem boot_str : bootBuiltins "str" = some (.type "str") := by decide +kernel
theorem boot_list : bootBuiltins "list" = some (.type "list") := by decide +kernel
theorem boot_tuple : bootBuiltins "tuple" = some (.type "tuple") := by decide +kernel
theorem boot_dict : bootBuiltins "dict" = some (.type "dict") := by decide +kernel

/-! ### readings, step by step -/
def NwL (xs : List V) (H : Hp) (Q : VK) : Prop := ∀ p, H p = none → Q (.ref p) (upd H p (.lst xs))
def NwT (xs : List V) (H : Hp) (Q : VK) : Prop := ∀ p, H p = none → Q (.ref p) (upd H p (.tup xs))
def NewL (xs : List V) (H : Hp) (Q : VK) : Prop := xs.length ≤ sizeLine ∧ NwL xs H Q
def NewT (xs : List V) (H : Hp) (Q : VK) : Prop := xs.length ≤ sizeLine ∧ NwT xs H Q
section
variable {K : PySem.W.Frag} {σ σ' : L2.St} {H : Hp} {Q : VK} {D' : Ends} {te ta tb tc : TE} {tt tt' : TT} {t u z : TS} {tl : TA} {v x y : V} {i j : Int} {n : Nat} {r r' : R2} {W : List Addr}
theorem h_seq (h : t { D' with nx := u D' } σ H) : tSeq t u D' σ H := h
theorem h_set (h : te σ H fun x H1 => u D' (σ.set n (some x)) H1) : tSeq (tAsg te (gName n)) u D' σ H := h
theorem h_set1 (h : te σ H fun x H1 => D'.nx (σ.set n (some x)) H1) : tAsg te (gName n) D' σ H := h
theorem h_nrm {T : L2.St → Hp → Prop} (h : T σ' H) (e : σ' = σ := by rfl) : T σ H := e ▸ h
theorem h_drop (h : te σ H fun _ H1 => D'.nx σ H1) : tDrop te D' σ H := h
theorem h_ret (h : te σ H D'.rt) : tRet te D' σ H := h
theorem h_if {c : TT} (h : c σ H fun b H1 => if b = true then t D' σ H1 else u D' σ H1) : tIfS c t u D' σ H := h
theorem h_next (h : D'.nx σ H) : tNext D' σ H := h
theorem h_nx {a c d : L2.St → Hp → Prop} {b : VK} (h : a σ H) : (Ends.mk a b c d).nx σ H := h
theorem h_var (e : σ[n]? = some (some v)) (h : Q v H) : tVar n σ H Q := ⟨v, e, h⟩
theorem h_c (h : Q v H) : tC v σ H Q := h
theorem h_op (h : ta σ H fun x H1 => tb σ H1 fun y H2 => r x y H2 Q) : tOp r ta tb σ H Q := h
theorem h_I0 {g : Int → Int → V} (h : Q (g i j) H) : rI0 g (.int i) (.int j) H Q := ⟨i, j, rfl, rfl, h⟩
theorem h_I {C : Int → Int → Prop} {g : Int → Int → V} (c : C i j) (h : Q (g i j) H) : rI C g (.int i) (.int j) H Q := ⟨i, j, rfl, rfl, c, h⟩
theorem h_un {f : V → Hp → VK → Prop} (h : ta σ H fun x H1 => f x H1 Q) : tUn f ta σ H Q := h
theorem h_U {g : Int → V} (h : Q (g i) H) : rU g (.int i) H Q := ⟨i, rfl, h⟩
theorem h_eq (s : scal x y = true) (h : Q (.bl (decide (x = y))) H) : rEq x y H Q := ⟨s, h⟩
theorem h_ne (s : scal x y = true) (h : Q (.bl (!decide (x = y))) H) : rNe x y H Q := ⟨s, h⟩
theorem dec_i : decide (V.int i = V.int j) = decide (i = j) := by simp
theorem dec_b {i j : Bool} : decide (V.bl i = V.bl j) = decide (i = j) := by simp
theorem dec_s {i j : Str} : decide (V.str i = V.str j) = decide (i = j) := by simp
theorem h_eqI (h : Q (.bl (decide (i = j))) H) : rEq (.int i) (.int j) H Q := ⟨rfl, by rw [dec_i]; exact h⟩
theorem h_neI (h : Q (.bl (!decide (i = j))) H) : rNe (.int i) (.int j) H Q := ⟨rfl, by rw [dec_i]; exact h⟩
theorem h_eqS {i j : Str} (h : Q (.bl (decide (i = j))) H) : rEq (.str i) (.str j) H Q := ⟨rfl, by rw [dec_s]; exact h⟩
theorem h_neS {i j : Str} (h : Q (.bl (!decide (i = j))) H) : rNe (.str i) (.str j) H Q := ⟨rfl, by rw [dec_s]; exact h⟩
theorem h_eqB {i j : Bool} (h : Q (.bl (decide (i = j))) H) : rEq (.bl i) (.bl j) H Q := ⟨rfl, by rw [dec_b]; exact h⟩
theorem h_neB {i j : Bool} (h : Q (.bl (!decide (i = j))) H) : rNe (.bl i) (.bl j) H Q := ⟨rfl, by rw [dec_b]; exact h⟩
theorem h_chain (h : ta σ H fun x H1 => tb σ H1 fun y H2 => r x y H2 fun z H3 => ∃ k, z = .bl k ∧ (if k = true then tc σ H3 fun w' H4 => r' y w' H4 Q else Q (.bl false) H3)) : tChain r r' ta tb tc σ H Q := h
theorem h_chk {k : Bool} {A : Prop} {w : V} {f : Bool → Prop} (hw : w = .bl k) (h : f k) : ∃ k, w = .bl k ∧ f k := ⟨k, hw, h⟩
theorem h_and (h : ta σ H fun x H1 => ∃ c, x = .bl c ∧ if c = true then tb σ H1 Q else Q (.bl false) H1) : tAndV ta tb σ H Q := h
theorem h_or (h : ta σ H fun x H1 => ∃ c, x = .bl c ∧ if c = true then Q (.bl true) H1 else tb σ H1 Q) : tOrV ta tb σ H Q := h
theorem h_not (h : ta σ H fun x H1 => ∃ c, x = .bl c ∧ Q (.bl (!c)) H1) : tNotV ta σ H Q := h
theorem h_tand {Q : Bool → Hp → Prop} (h : tt σ H fun c H1 => if c = true then tt' σ H1 Q else Q false H1) : tAnd tt tt' σ H Q := h
theorem h_tor {Q : Bool → Hp → Prop} (h : tt σ H fun c H1 => if c = true then Q true H1 else tt' σ H1 Q) : tOr tt tt' σ H Q := h
theorem h_tnot {Q : Bool → Hp → Prop} (h : tt σ H fun c H1 => Q (!c) H1) : tNot tt σ H Q := h
theorem h_test {Q : Bool → Hp → Prop} (h : te σ H fun x H' => ∃ k, x = .bl k ∧ Q k H') : tTest te σ H Q := h
theorem h_tB {Q : Bool → Hp → Prop} (h : te σ H fun x H' => ∃ k, x = .bl k ∧ Q k H') : tB te σ H Q := h
theorem h_bl {b : Bool} {f : Bool → Prop} (h : f b) : ∃ k, V.bl b = .bl k ∧ f k := ⟨b, rfl, h⟩
theorem h_iteT {A B : Prop} (h : A) : if true = true then A else B := by rw [if_pos rfl]; exact h
theorem h_iteF {A B : Prop} (h : B) : if false = true then A else B := by rw [if_neg Bool.false_ne_true]; exact h
theorem h_ite {b : Bool} {A B : Prop} (h1 : b = true → A) (h2 : b = false → B) : if b = true then A else B := by
  cases b
  · exact h_iteF (h2 rfl)
  · exact h_iteT (h1 rfl)
theorem h_ifE {c : TT} (h : c σ H fun b H1 => if b = true then ta σ H1 Q else tb σ H1 Q) : tIf c ta tb σ H Q := h
theorem h_nil {Q : List V → Hp → Prop} (h : Q [] H) : tNil σ H Q := h
theorem h_cons {Q : List V → Hp → Prop} (h : te σ H fun x H1 => tl σ H1 fun xs H2 => Q (x :: xs) H2) : tCons te tl σ H Q := h
theorem h_cb {f : List V → Hp → VK → Prop} (h : tl σ H fun vs H1 => f vs H1 Q) : tCB f tl σ H Q := h
theorem h_call {sp : Sp} {dvs : List V} {E : XK} (h : tl σ H fun vs H1 => sp (vs ++ dvs) H1 Q E) : tCall sp dvs E tl σ H Q := h
theorem h_callS {sp : Sp} {E : L2.St → XK} (h : tl σ H fun vs H1 => sp vs H1 Q (E σ)) : tCallS sp E tl σ H Q := h
theorem h_tup (h : tl σ H fun xs H1 => NewT xs H1 Q) : tTup tl σ H Q := h
theorem h_lst (h : tl σ H fun xs H1 => NewL xs H1 Q) : tLst tl σ H Q := h
theorem h_ixL {p : Addr} {xs : List V} (s : SqL K H p xs) (e : atI xs i = some v) (h : Q v H) : rIxL K (.ref p) (.int i) H Q := ⟨p, xs, i, v, rfl, rfl, s, e, h⟩
theorem h_ixT {p : Addr} {xs : List V} (s : SqT K H p xs) (e : atI xs i = some v) (h : Q v H) : rIxT K (.ref p) (.int i) H Q := ⟨p, xs, i, v, rfl, rfl, s, e, h⟩
end

section
variable {K : PySem.W.Frag} {σ : L2.St} {B B1 B' H H1 H' B0 H0 : Hp} {Q : VK} {W W' : List Addr} {p q : Addr} {xs ys : List V} {ds es : List D} {v : V} {d : D} {i j : Int} {te ta tb : TE}
theorem h_newL (w : Ex B H) (r : RepL K B xs ds) (h : ∀ p B' H', Stp [] B H B' H' → Rep K B' (.ref p) (.lst ds) → Q (.ref p) H') (hn : xs.length ≤ sizeLine) : NewL xs H Q :=
  ⟨hn, fun p hp => h p _ _ (Stp.new w hp) (.lst (SqL.of upd_same) (r.mono (Ex.new (w.none hp))))⟩
theorem h_newT (w : Ex B H) (r : RepL K B xs ds) (h : ∀ p B' H', Stp [] B H B' H' → Rep K B' (.ref p) (.tup ds) → Q (.ref p) H') (hn : xs.length ≤ sizeLine) : NewT xs H Q :=
  ⟨hn, fun p hp => h p _ _ (Stp.new w hp) (.tup (SqT.of upd_same) (r.mono (Ex.new (w.none hp))))⟩
theorem h_newM (w : Ex B H) (r : RepL K B xs ds) (h : ∀ p H', H p = none → Stp [] B H B H' → Mu K B H' p ds → Q (.ref p) H') (hn : xs.length ≤ sizeLine) : NewL xs H Q :=
  ⟨hn, fun p hp => h p _ hp (Stp.newM w hp) (Mu.new w hp r)⟩
theorem h_nwL (w : Ex B H) (r : RepL K B xs ds) (h : ∀ p B' H', Stp [] B H B' H' → Rep K B' (.ref p) (.lst ds) → Q (.ref p) H') : NwL xs H Q :=
  fun p hp => h p _ _ (Stp.new w hp) (.lst (SqL.of upd_same) (r.mono (Ex.new (w.none hp))))
theorem h_nwT (w : Ex B H) (r : RepL K B xs ds) (h : ∀ p B' H', Stp [] B H B' H' → Rep K B' (.ref p) (.tup ds) → Q (.ref p) H') : NwT xs H Q :=
  fun p hp => h p _ _ (Stp.new w hp) (.tup (SqT.of upd_same) (r.mono (Ex.new (w.none hp))))
theorem h_nwM (w : Ex B H) (r : RepL K B xs ds) (h : ∀ p H', H p = none → Stp [] B H B H' → Mu K B H' p ds → Q (.ref p) H') : NwL xs H Q :=
  fun p hp => h p _ hp (Stp.newM w hp) (Mu.new w hp r)
/-- what was free now was free at the entry -/
theorem Stp.nn (s : Stp W B0 H0 B H) (h : H p = none) : H0 p = none := by
  cases e : H0 p with
  | none => rfl
  | some o => obtain ⟨u, q⟩ := s.al p o e; rw [h] at q; cases q
/-- a step that writes at an object of our own -/
theorem Stp.own2 (a : Stp W B0 H0 B H) (s : Stp [p] B H B' H') (h0 : H0 p = none) : Stp W B0 H0 B' H' :=
  ⟨a.ex.trans s.ex, s.ok, fun x u hx e => s.fr x u (fun z => by
      rw [List.mem_singleton.mp z, h0] at e; cases e) (a.fr x u hx e), fun x u e => let ⟨u1, e1⟩ := a.al x u e; s.al x u1 e1, fun x u hb e => let ⟨u1, e1⟩ := a.al x u e; s.nw x u1 (a.nw x u hb e) e1⟩
theorem nm0 : p ∉ ([] : List Addr) := fun z => nomatch z
theorem nm1 (h : p ≠ q) : p ∉ [q] := fun z => h (List.mem_singleton.mp z)
theorem sub0 : ∀ x, x ∈ ([] : List Addr) → x ∈ W := fun _ z => nomatch z
/-- a list of our own is kept as it is -/
theorem Mu.keep (m : Mu K B H p ds) : ∃ B', Ex B B' ∧ (∀ q, q ≠ p → B q = none → B' q = none) ∧ (∀ W B0 H0, Stp W B0 H0 B H → Ex B0 H0 → H0 p = none → Stp W B0 H0 B' H) ∧ Rep K B' (.ref p) (.lst ds) := by
  obtain ⟨hb, xs, hp, r⟩ := m
  exact ⟨upd B p (.lst xs), Ex.new hb, fun q n e => by rw [upd_ne n]; exact e, fun W B0 H0 st w0 h0 => Stp.keep w0 st h0 hb hp, .lst (SqL.of upd_same) (r.mono (Ex.new hb))⟩
/-- a step that writes at what may be written and at objects of our own -/
theorem Stp.go (a : Stp W B0 H0 B H) (s : Stp W' B H B' H') (h : ∀ p, p ∈ W' → p ∈ W ∨ H0 p = none) : Stp W B0 H0 B' H' :=
  ⟨a.ex.trans s.ex, s.ok, fun x u hx e => s.fr x u (fun z => by
      rcases h x z with q | q
      · exact hx q
      · rw [q] at e; cases e) (a.fr x u hx e), fun x u e => let ⟨u1, e1⟩ := a.al x u e; s.al x u1 e1, fun x u hb e => let ⟨u1, e1⟩ := a.al x u e; s.nw x u1 (a.nw x u hb e) e1⟩
theorem go0 {F : Addr → Prop} : ∀ x, x ∈ ([] : List Addr) → F x := fun _ z => nomatch z
theorem go1 {F : Addr → Prop} (h : F p) : ∀ x, x ∈ [p] → F x := fun x z => by rw [List.mem_singleton.mp z]; exact h
theorem go2 {F : Addr → Prop} (h : F p) (h' : F q) : ∀ x, x ∈ [p, q] → F x := fun x z => by
  rcases List.mem_cons.mp z with e | e
  · rw [e]; exact h
  · rw [List.mem_singleton.mp e]; exact h'
theorem nm2 {r : Addr} (h : p ≠ q) (h' : p ≠ r) : p ∉ [q, r] := fun z => by
  rcases List.mem_cons.mp z with e | e
  · exact h e
  · exact h' (List.mem_singleton.mp e)
theorem Mu.kp (m : Mu K B H q es) (e : Ex B B') (k : ∀ q, q ≠ p → B q = none → B' q = none) (n : q ≠ p) : Mu K B' H q es := by
  obtain ⟨hb, xs, hp, r⟩ := m
  exact ⟨k q n hb, xs, hp, r.mono e⟩
theorem RepL.atE {α : Type} [Enc α] {l : List α} {x : α} (r : RepL K B xs (l.map enc)) (h : atI l i = some x) : ∃ v, atI xs i = some v ∧ Rep K B v (enc x) := by
  refine r.at ?_
  unfold atI at h ⊢
  rw [List.length_map]
  cases e : ixN l.length i with
  | none => rw [e] at h; cases h
  | some k =>
    rw [e] at h
    show (l.map enc)[k]? = _
    rw [List.getElem?_map, show l[k]? = some x from h]
    rfl
theorem h_pow {k : Int} (e : i ^ j.toNat = k) (c : CPow i j) (h : Q (.int k) H) : rI CPow (fun i j => .int (i ^ j.toNat)) (.int i) (.int j) H Q := ⟨i, j, rfl, rfl, c, by show Q (.int (i ^ j.toNat)) H; rw [e]; exact h⟩
instance (i j : Int) : Decidable (CPow i j) := by unfold CPow; infer_instance
instance (i j : Int) : Decidable (CMul i j) := by unfold CMul; infer_instance
instance (i j : Int) : Decidable (CDiv i j) := by unfold CDiv; infer_instance
def absI (i : Int) : Int := if i < 0 then -i else i
def b2z (b : Bool) : Int := if b then 1 else 0
theorem h_isB {a b : Bool} (h : Q (.bl (decide (a = b))) H) : rIsB (.bl a) (.bl b) H Q := ⟨a, b, rfl, rfl, h⟩
theorem h_isnotB {a b : Bool} (h : Q (.bl (!decide (a = b))) H) : rNotB (.bl a) (.bl b) H Q := ⟨a, b, rfl, rfl, h⟩
def rLenY (K : PySem.W.Frag) : List V → Hp → VK → Prop := fun xs H Q => ∃ p ys, xs = [.ref p] ∧ (SqL K H p ys ∨ SqT K H p ys) ∧ Q (.int ys.length) H
def rAbsY : List V → Hp → VK → Prop := fun xs H Q => ∃ i, xs = [.int i] ∧ Q (.int (if i < 0 then -i else i)) H
def rIntY : List V → Hp → VK → Prop := fun xs H Q => (∃ i, xs = [.int i] ∧ Q (.int i) H) ∨ ∃ k, xs = [.bl k] ∧ Q (.int (if k then 1 else 0)) H
def rStrY : List V → Hp → VK → Prop := fun xs H Q => ∃ i, xs = [.int i] ∧ i.natAbs.log2 < 1920 ∧ Q (.str (toString i)) H
def rListY (K : PySem.W.Frag) : List V → Hp → VK → Prop := fun xs H Q => ∃ p ys, xs = [.ref p] ∧ (SqL K H p ys ∨ SqT K H p ys) ∧ ∀ l, H l = none → Q (.ref l) (upd H l (.lst ys))
def rTupY (K : PySem.W.Frag) : List V → Hp → VK → Prop := fun xs H Q => ∃ p ys, xs = [.ref p] ∧ ((SqL K H p ys ∧ ∀ l, H l = none → Q (.ref l) (upd H l (.tup ys))) ∨ (SqT K H p ys ∧ Q (.ref p) H))
theorem cr_len {X : Cx} : CallR X (.builtin "len") (rLenY X.K) := call_len_seq
theorem cr_abs {X : Cx} : CallR X (.builtin "abs") rAbsY := call_abs
theorem cr_int {X : Cx} : CallR X (.type "int") rIntY := call_int1
theorem cr_str {X : Cx} : CallR X (.type "str") rStrY := call_str_int
theorem cr_list {X : Cx} : CallR X (.type "list") (rListY X.K) := call_list_of
theorem cr_tuple {X : Cx} : CallR X (.type "tuple") (rTupY X.K) := call_tuple_of
theorem h_len {α : Type} [Enc α] {l : List α} (s : SqL K H p xs) (r : RepL K B xs (l.map enc)) (h : Q (.int l.length) H) : rLenY K [V.ref p] H Q := by
  refine ⟨p, xs, rfl, .inl s, ?_⟩
  rw [show xs.length = l.length from by rw [r.length, List.length_map]]
  exact h
theorem h_lenT (s : SqT K H p xs) (r : RepL K B xs ds) (h : Q (.int ds.length) H) : rLenY K [V.ref p] H Q := by
  refine ⟨p, xs, rfl, .inr s, ?_⟩
  rw [r.length]
  exact h
theorem h_abs (h : Q (.int (absI i)) H) : rAbsY [V.int i] H Q := ⟨i, rfl, h⟩
theorem h_intB {b : Bool} (h : Q (.int (b2z b)) H) : rIntY [V.bl b] H Q := .inr ⟨b, rfl, h⟩
theorem h_intI (h : Q (.int i) H) : rIntY [V.int i] H Q := .inl ⟨i, rfl, h⟩
theorem h_str (c : i.natAbs.log2 < 1920) (h : Q (.str (toString i)) H) : rStrY [V.int i] H Q := ⟨i, rfl, c, h⟩
theorem h_listL (s : SqL K H p xs) (h : NwL xs H Q) : rListY K [V.ref p] H Q := ⟨p, xs, rfl, .inl s, h⟩
theorem h_listT (s : SqT K H p xs) (h : NwL xs H Q) : rListY K [V.ref p] H Q := ⟨p, xs, rfl, .inr s, h⟩
theorem h_tupL (s : SqL K H p xs) (h : NwT xs H Q) : rTupY K [V.ref p] H Q := ⟨p, xs, rfl, .inl ⟨s, h⟩⟩
theorem h_iteN {b : Bool} {A C : Prop} (h1 : b = false → A) (h2 : b = true → C) : if (!b) = true then A else C := by
  cases b
  · exact h_iteT (h1 rfl)
  · exact h_iteF (h2 rfl)
theorem h_iteNT {A C : Prop} (h : C) : if (!true) = true then A else C := h_iteF h
theorem h_iteNF {A C : Prop} (h : A) : if (!false) = true then A else C := h_iteT h
theorem Post.iteTn {α : Type} {m m' : Res α} {P : α → Prop} {R : Err → Prop} {c : Bool} (h : Post (if (!c) = true then m else m') P R) (hc : c = false) : Post m P R := by
  rw [hc] at h; exact h
theorem Post.iteFn {α : Type} {m m' : Res α} {P : α → Prop} {R : Err → Prop} {c : Bool} (h : Post (if (!c) = true then m else m') P R) (hc : c = true) : Post m' P R := by
  rw [hc] at h; exact h
end

/-! ### joins, loops, comprehensions, in step with the mirror -/
section
variable {K : PySem.W.Frag} {σ : L2.St} {B B1 B' H H1 H' B0 H0 : Hp} {Q : VK} {W W' : List Addr} {p q : Addr} {xs ys : List V} {ds es : List D} {v : V} {d : D} {t z tb : TS} {te : TE} {c tt : TT} {D' : Ends} {g : TG} {ti : TI}
variable {α β S R' : Type} {P : β → Prop} {R : Err → Prop}
theorem h_joinS {m : Res α} {k : α → Res β} (hP : Post (m.bind k) P R) (J : α → L2.St → Hp → Prop)
    (h1 : ∀ N : L2.St → Hp → Prop, (∀ a σ' H', J a σ' H' → Post (k a) P R → N σ' H') → Post m (fun a => Post (k a) P R) R → t { D' with nx := N } σ H)
    (h2 : ∀ a σ' H', J a σ' H' → Post (k a) P R → z D' σ' H') : tSeq t z D' σ H := h1 _ h2 hP.bind
theorem h_condJ {m : Res Bool} {k : Bool → Res β} {Qb : Bool → Hp → Prop} (hP : Post (m.bind k) P R) (J : Hp → Prop)
    (h1 : ∀ N : Bool → Hp → Prop, (∀ b H', J H' → Post (k b) P R → N b H') → Post m (fun b => Post (k b) P R) R → c σ H N)
    (h2 : ∀ b H', J H' → Post (k b) P R → Qb b H') : c σ H Qb := h1 _ h2 hP.bind
theorem h_exprJ {m : Res α} {k : α → Res β} (hP : Post (m.bind k) P R) (J : α → V → Hp → Prop)
    (h1 : ∀ N : VK, (∀ a v H', J a v H' → Post (k a) P R → N v H') → Post m (fun a => Post (k a) P R) R → te σ H N)
    (h2 : ∀ a v H', J a v H' → Post (k a) P R → Q v H') : te σ H Q := h1 _ h2 hP.bind
theorem h_gname {n : Nat} {Q : L2.St → Hp → Prop} (h : Q (σ.set n (some v)) H) : gName n v σ H Q := h
/-- behind a loop -/
def afterR (k : S → Res β) : Fl S β → Res β
  | .nx s => k s | .rt r => .ok r | .bk s => k s
/-- a join of ways of which some end the def (or the turn) -/
theorem h_joinF {m : Res (Fl S β)} {k : S → Res β} (hP : Post (m.bind (afterR k)) P R) (J : S → L2.St → Hp → Prop)
    (h1 : ∀ (N : L2.St → Hp → Prop) (T : Fl S β → Prop), (∀ a σ' H', J a σ' H' → T (.nx a) → N σ' H') → (∀ r, T (.rt r) → P r) → Post m T R → t { D' with nx := N } σ H)
    (h2 : ∀ a σ' H', J a σ' H' → Post (k a) P R → z D' σ' H') : tSeq t z D' σ H :=
  h1 _ (fun a => Post (afterR k a) P R) (fun a σ' H' j q => h2 a σ' H' j q) (fun _ q => (q : Post (.ok _) P R).ok) hP.bind
/-- what a turn hands on -/
def turnR (l : List α) (f : α → S → Res (Fl S R')) (i : Nat) (P : Fl S R' → Prop) (R : Err → Prop) : Fl S R' → Prop
  | .nx s => Post (forR (l.drop i) s f) P R | .rt r => P (.rt r) | .bk s => P (.bk s)
theorem Post.turn {l : List α} {i : Nat} {s : S} {f : α → S → Res (Fl S R')} {P : Fl S R' → Prop} {x : α} (h : Post (forR (l.drop i) s f) P R) (hx : l[i]? = some x) : Post (f x s) (turnR l f (i + 1) P R) R :=
  (Post.forS h hx).mono (fun r q => by cases r <;> exact q) fun _ q => q

theorem h_forE (h : te σ H fun x H1 => tFor (iList K (tC x)) g tb D' σ H1) : tFor (iList K te) g tb D' σ H := h
theorem h_forL [Enc α] {l : List α} {s0 : S} {f : α → S → Res (Fl S β)} {k : S → Res β} (hP : Post ((forR l s0 f).bind (afterR k)) P R) (hs : SqL K H p xs) (hr : RepL K B xs (l.map enc))
    (J : S → L2.St → Hp → Prop) (h0 : J s0 σ H) (hl : ∀ s σ' H', J s σ' H' → SqL K H' p xs)
    (hb : ∀ (N : L2.St → Hp → Prop) (T : Fl S β → Prop) (x : α) v s σ' H', J s σ' H' → Rep K B v (enc x) → (∀ s' σ2 H2, J s' σ2 H2 → T (.nx s') → N σ2 H2) → (∀ r, T (.rt r) → P r) → (∀ s' σ2 H2, J s' σ2 H2 → T (.bk s') → D'.nx σ2 H2) → Post (f x s) T R →
      g v σ' H' fun σ2 H2 => tb { D' with nx := N, ct := N, bk := D'.nx } σ2 H2)
    (hd : ∀ s σ' H', J s σ' H' → Post (k s) P R → D'.nx σ' H') : tFor (iList K (tC (.ref p))) g tb D' σ H := by
  refine ⟨p, rfl, ⟨xs, hs⟩, for_list (K := K) (a := p) (xs := xs) (fun i σ' H' => ∃ s, J s σ' H' ∧ Post (forR (l.drop i) s f) (fun a => Post (afterR k a) P R) R) ⟨s0, h0, hP.bind⟩ (fun i σ' H' _ ⟨s, j, _⟩ => hl s σ' H' j) ?_ ?_⟩
  · rintro i y σ' H' hi ⟨s, j, q⟩
    obtain ⟨x, hx⟩ : ∃ x, l[i]? = some x := by
      have h1 := (List.getElem?_eq_some_iff.mp hi).1
      rw [hr.length, List.length_map] at h1
      exact ⟨l[i], List.getElem?_eq_getElem h1⟩
    obtain ⟨u, hu, ru⟩ := hr.get (i := i) (d := enc x) (by rw [List.getElem?_map, hx]; rfl)
    rw [hi] at hu; cases hu
    exact hb _ _ x y s σ' H' j ru (fun s' σ2 H2 j2 t2 => ⟨s', j2, t2⟩) (fun r t2 => (t2 : Post (.ok r) P R).ok) (fun s' σ2 H2 j2 t2 => hd s' σ2 H2 j2 t2) (q.turn hx)
  · rintro σ' H' ⟨s, j, q⟩
    exact hd s σ' H' j (q.forN (by rw [hr.length, List.length_map]; exact Nat.le_refl _))
theorem h_forTE (h : te σ H fun x H1 => tFor (iTup K (tC x)) g tb D' σ H1) : tFor (iTup K te) g tb D' σ H := h
theorem h_forT [Enc α] {l : List α} {s0 : S} {f : α → S → Res (Fl S β)} {k : S → Res β} (hP : Post ((forR l s0 f).bind (afterR k)) P R) (hs : SqT K H p xs) (hr : RepL K B xs (l.map enc))
    (J : S → L2.St → Hp → Prop) (h0 : J s0 σ H) (hl : ∀ s σ' H', J s σ' H' → SqT K H' p xs)
    (hb : ∀ (N : L2.St → Hp → Prop) (T : Fl S β → Prop) (x : α) v s σ' H', J s σ' H' → Rep K B v (enc x) → (∀ s' σ2 H2, J s' σ2 H2 → T (.nx s') → N σ2 H2) → (∀ r, T (.rt r) → P r) → (∀ s' σ2 H2, J s' σ2 H2 → T (.bk s') → D'.nx σ2 H2) → Post (f x s) T R →
      g v σ' H' fun σ2 H2 => tb { D' with nx := N, ct := N, bk := D'.nx } σ2 H2)
    (hd : ∀ s σ' H', J s σ' H' → Post (k s) P R → D'.nx σ' H') : tFor (iTup K (tC (.ref p))) g tb D' σ H := by
  refine ⟨p, rfl, ⟨xs, hs⟩, for_tup (K := K) (a := p) (xs := xs) (fun i σ' H' => ∃ s, J s σ' H' ∧ Post (forR (l.drop i) s f) (fun a => Post (afterR k a) P R) R) ⟨s0, h0, hP.bind⟩ (fun i σ' H' _ ⟨s, j, _⟩ => hl s σ' H' j) ?_ ?_⟩
  · rintro i y σ' H' hi ⟨s, j, q⟩
    obtain ⟨x, hx⟩ : ∃ x, l[i]? = some x := by
      have h1 := (List.getElem?_eq_some_iff.mp hi).1
      rw [hr.length, List.length_map] at h1
      exact ⟨l[i], List.getElem?_eq_getElem h1⟩
    obtain ⟨u, hu, ru⟩ := hr.get (i := i) (d := enc x) (by rw [List.getElem?_map, hx]; rfl)
    rw [hi] at hu; cases hu
    exact hb _ _ x y s σ' H' j ru (fun s' σ2 H2 j2 t2 => ⟨s', j2, t2⟩) (fun r t2 => (t2 : Post (.ok r) P R).ok) (fun s' σ2 H2 j2 t2 => hd s' σ2 H2 j2 t2) (q.turn hx)
  · rintro σ' H' ⟨s, j, q⟩
    exact hd s σ' H' j (q.forN (by rw [hr.length, List.length_map]; exact Nat.le_refl _))
/-- the ints from lo on, below hi -/
def rngI (lo hi : Int) : List Int := (List.range (hi - lo).toNat).map fun (i : Nat) => lo + (i : Int)
theorem rngI_get {lo hi : Int} {i : Nat} (h : i < (hi - lo).toNat) : (rngI lo hi)[i]? = some (lo + (i : Int)) := by
  unfold rngI
  rw [List.getElem?_map, List.getElem?_range h]
  rfl
theorem rngI_len {lo hi : Int} : (rngI lo hi).length = (hi - lo).toNat := by
  unfold rngI
  rw [List.length_map, List.length_range]
def Rng1 (vs : List V) (g : TG) (tb : TS) (D' : Ends) (σ : L2.St) (H : Hp) : Prop := tFor (iRng1 (fun _ H Q => Q vs H)) g tb D' σ H
def Rng2 (vs : List V) (g : TG) (tb : TS) (D' : Ends) (σ : L2.St) (H : Hp) : Prop := tFor (iRng2 (fun _ H Q => Q vs H)) g tb D' σ H
theorem h_rng1 {ta : TA} (h : ta σ H fun vs H1 => Rng1 vs g tb D' σ H1) : tFor (iRng1 ta) g tb D' σ H := h
theorem h_rng2 {ta : TA} (h : ta σ H fun vs H1 => Rng2 vs g tb D' σ H1) : tFor (iRng2 ta) g tb D' σ H := h
theorem forRng {lo hi : Int} {s0 : S} {f : Int → S → Res (Fl S β)} {k : S → Res β} (hP : Post ((forR (rngI lo hi) s0 f).bind (afterR k)) P R)
    (J : S → L2.St → Hp → Prop) (h0 : J s0 σ H)
    (hb : ∀ (N : L2.St → Hp → Prop) (T : Fl S β → Prop) (x : Int) s σ' H', J s σ' H' → lo ≤ x → x < hi → (∀ s' σ2 H2, J s' σ2 H2 → T (.nx s') → N σ2 H2) → (∀ r, T (.rt r) → P r) → (∀ s' σ2 H2, J s' σ2 H2 → T (.bk s') → D'.nx σ2 H2) → Post (f x s) T R →
      g (.int x) σ' H' fun σ2 H2 => tb { D' with nx := N, ct := N, bk := D'.nx } σ2 H2)
    (hd : ∀ s σ' H', J s σ' H' → Post (k s) P R → D'.nx σ' H') :
    ∃ W : Nat → Nat → L2.St → Hp → Prop, (∃ m, W 0 m σ H) ∧ ∀ i m σ H, W i m σ H →
      ((Itr lo (hi - lo).toNat).stop i H ∧ D'.nx σ H) ∨ ((Itr lo (hi - lo).toNat).go i H ∧ ∃ N : L2.St → Hp → Prop, (∀ σ' H', N σ' H' → ∃ m', m' < m ∧ W (i + 1) m' σ' H') ∧ ∀ x H', (Itr lo (hi - lo).toNat).yld i H x H' → g x σ H' fun σ2 H2 => tb { D' with nx := N, ct := N, bk := D'.nx } σ2 H2) := by
  refine for_range (lo := lo) (n := (hi - lo).toNat) (fun i σ' H' => ∃ s, J s σ' H' ∧ Post (forR ((rngI lo hi).drop i) s f) (fun a => Post (afterR k a) P R) R) ⟨s0, h0, hP.bind⟩ ?_ ?_
  · rintro i σ' H' hi' ⟨s, j, q⟩
    exact hb _ _ (lo + (i : Int)) s σ' H' j (by omega) (by omega) (fun s' σ2 H2 j2 t2 => ⟨s', j2, t2⟩) (fun r t2 => (t2 : Post (.ok r) P R).ok) (fun s' σ2 H2 j2 t2 => hd s' σ2 H2 j2 t2) (q.turn (rngI_get hi'))
  · rintro σ' H' ⟨s, j, q⟩
    exact hd s σ' H' j (q.forN (by rw [rngI_len]; exact Nat.le_refl _))
theorem h_forR1 {hi : Int} {s0 : S} {f : Int → S → Res (Fl S β)} {k : S → Res β} (hP : Post ((forR (rngI 0 hi) s0 f).bind (afterR k)) P R) (hz : -(2 ^ 62) ≤ hi ∧ hi < 2 ^ 62)
    (J : S → L2.St → Hp → Prop) (h0 : J s0 σ H)
    (hb : ∀ (N : L2.St → Hp → Prop) (T : Fl S β → Prop) (x : Int) s σ' H', J s σ' H' → 0 ≤ x → x < hi → (∀ s' σ2 H2, J s' σ2 H2 → T (.nx s') → N σ2 H2) → (∀ r, T (.rt r) → P r) → (∀ s' σ2 H2, J s' σ2 H2 → T (.bk s') → D'.nx σ2 H2) → Post (f x s) T R →
      g (.int x) σ' H' fun σ2 H2 => tb { D' with nx := N, ct := N, bk := D'.nx } σ2 H2)
    (hd : ∀ s σ' H', J s σ' H' → Post (k s) P R → D'.nx σ' H') : Rng1 [.int hi] g tb D' σ H := by
  have q := forRng hP J h0 hb hd
  rw [Int.sub_zero] at q
  exact ⟨hi, rfl, hz.1, hz.2, q⟩
theorem h_forR2 {lo hi : Int} {s0 : S} {f : Int → S → Res (Fl S β)} {k : S → Res β} (hP : Post ((forR (rngI lo hi) s0 f).bind (afterR k)) P R) (hz : (-(2 ^ 62) ≤ lo ∧ lo < 2 ^ 62) ∧ -(2 ^ 62) ≤ hi ∧ hi < 2 ^ 62)
    (J : S → L2.St → Hp → Prop) (h0 : J s0 σ H)
    (hb : ∀ (N : L2.St → Hp → Prop) (T : Fl S β → Prop) (x : Int) s σ' H', J s σ' H' → lo ≤ x → x < hi → (∀ s' σ2 H2, J s' σ2 H2 → T (.nx s') → N σ2 H2) → (∀ r, T (.rt r) → P r) → (∀ s' σ2 H2, J s' σ2 H2 → T (.bk s') → D'.nx σ2 H2) → Post (f x s) T R →
      g (.int x) σ' H' fun σ2 H2 => tb { D' with nx := N, ct := N, bk := D'.nx } σ2 H2)
    (hd : ∀ s σ' H', J s σ' H' → Post (k s) P R → D'.nx σ' H') : Rng2 [.int lo, .int hi] g tb D' σ H :=
  ⟨lo, hi, rfl, ⟨hz.1.1, hz.1.2, hz.2.1, hz.2.2⟩, forRng hP J h0 hb hd⟩

/-! comprehensions -/
def compL : List α → S → (α → S → Res (Option R' × S)) → Res (List R' × S)
  | [], s, _ => .ok ([], s)
  | x :: xs, s, f => (f x s).bind fun r => (compL xs r.2 f).bind fun q => .ok (match r.1 with | some b => b :: q.1 | none => q.1, q.2)
def compR (l : List α) (s : S) (f : α → S → Res (Option R' × S)) : Res (List R' × S) := guardR (l.length ≤ 1000000) (compL l s f)
def compT (l : List α) (f : α → S → Res (Option R' × S)) (k : List R' × S → Res β) (acc : List R') (P : β → Prop) (R : Err → Prop) : Option R' × S → Prop
  | (some b, s) => Post ((compL l s f).bind fun q => k (acc ++ [b] ++ q.1, q.2)) P R
  | (none, s) => Post ((compL l s f).bind fun q => k (acc ++ q.1, q.2)) P R
theorem Post.compS {l : List α} {i : Nat} {s : S} {f : α → S → Res (Option R' × S)} {k : List R' × S → Res β} {acc : List R'} {x : α} (h : Post ((compL (l.drop i) s f).bind fun q => k (acc ++ q.1, q.2)) P R) (hx : l[i]? = some x) :
    Post (f x s) (compT (l.drop (i + 1)) f k acc P R) R := by
  obtain ⟨hi, e⟩ := List.getElem?_eq_some_iff.mp hx
  rw [List.drop_eq_getElem_cons hi, e] at h
  have h2 := (Post.bind (Post.bind h))
  refine h2.mono (fun r q => ?_) fun _ q => q
  obtain ⟨o, s'⟩ := r
  cases o with
  | some b =>
    show Post ((compL (l.drop (i + 1)) s' f).bind fun q => k (acc ++ [b] ++ q.1, q.2)) P R
    have q1 : Post ((compL (l.drop (i + 1)) s' f).bind fun q => .ok (b :: q.1, q.2)) (fun a => Post (k (acc ++ a.1, a.2)) P R) R := q
    generalize compL (l.drop (i + 1)) s' f = m at q1 ⊢
    cases m with
    | ok a =>
      have q2 : Post (k (acc ++ (b :: a.1), a.2)) P R := q1.ok
      show Post (k (acc ++ [b] ++ a.1, a.2)) P R
      rw [List.append_assoc]
      exact q2
    | err e => exact ⟨q1.h0⟩
    | stuck => exact ⟨q1.h0⟩
  | none =>
    show Post ((compL (l.drop (i + 1)) s' f).bind fun q => k (acc ++ q.1, q.2)) P R
    have q1 : Post ((compL (l.drop (i + 1)) s' f).bind fun q => .ok (q.1, q.2)) (fun a => Post (k (acc ++ a.1, a.2)) P R) R := q
    generalize compL (l.drop (i + 1)) s' f = m at q1 ⊢
    cases m
    · exact q1.ok
    · exact ⟨q1.h0⟩
    · exact ⟨q1.h0⟩
theorem h_app1 [Enc α] {l : List α} {b : α} {y : V} {N : Hp → Prop} (w : Ex B H) (m : Mu K B H p (l.map enc)) (r : Rep K B y (enc b)) (hz : l.length < sizeLine) (h : ∀ H', Stp [p] B H B H' → Mu K B H' p ((l ++ [b]).map enc) → N H') :
    ∃ acc, H p = some (.lst acc) ∧ acc.length < sizeLine ∧ N (upd H p (.lst (acc ++ [y]))) := by
  obtain ⟨hb, xs, hp, hr⟩ := id m
  refine ⟨xs, hp, by rw [hr.length, List.length_map]; exact hz, ?_⟩
  have rl : RepL K B (xs ++ [y]) ((l ++ [b]).map enc) := by
    rw [List.map_append]
    exact hr.append (.cons r .nil)
  obtain ⟨s, m'⟩ := Stp.mut w m rl
  exact h _ s m'
def LcL (K : PySem.W.Frag) (v : V) (g : TG) (tt : TT) (te : TE) (vs : List Nat) (σ : L2.St) (H : Hp) (Q : VK) : Prop := tLc (iList K (tC v)) g tt te vs σ H Q
theorem h_lcE {vs : List Nat} {tl : TE} (h : tl σ H fun x H1 => LcL K x g tt te vs σ H1 Q) : tLc (iList K tl) g tt te vs σ H Q := h
def LcT (σ : L2.St) (vs : List Nat) (tt : TT) (te : TE) (Dl : Addr) (N : Hp → Prop) : L2.St → Hp → Prop := fun σ2 H2 => wipe σ2 vs = wipe σ vs ∧ tt σ2 H2 fun b H3 =>
  if b = true then te σ2 H3 fun y H4 => ∃ acc, H4 Dl = some (.lst acc) ∧ acc.length < sizeLine ∧ N (upd H4 Dl (.lst (acc ++ [y]))) else N H3
def App (Dl : Addr) (N : Hp → Prop) : VK := fun y H4 => ∃ acc, H4 Dl = some (.lst acc) ∧ acc.length < sizeLine ∧ N (upd H4 Dl (.lst (acc ++ [y])))
theorem h_lcT {vs : List Nat} {Dl : Addr} {N : Hp → Prop} {σ2 : L2.St} (e : wipe σ2 vs = wipe σ vs) (h : te σ2 H (App Dl N)) : LcT σ vs tYes te Dl N σ2 H := ⟨e, h⟩
theorem h_lcI {vs : List Nat} {Dl : Addr} {N : Hp → Prop} {σ2 : L2.St} (e : wipe σ2 vs = wipe σ vs) (h : tt σ2 H fun b H3 => if b = true then te σ2 H3 (App Dl N) else N H3) : LcT σ vs tt te Dl N σ2 H := ⟨e, h⟩
theorem h_app [Enc α] {l : List α} {b : α} {y : V} {N : Hp → Prop} (w : Ex B H) (m : Mu K B H p (l.map enc)) (r : Rep K B y (enc b)) (hz : l.length < sizeLine) (h : ∀ H', Stp [p] B H B H' → Mu K B H' p ((l ++ [b]).map enc) → N H') : App p N y H := h_app1 w m r hz h
theorem h_lcL [Enc α] {l : List α} {s0 : S} {f : α → S → Res (Option R' × S)} {k : List R' × S → Res β} {vs : List Nat} (hP : Post ((compR l s0 f).bind k) P R) (hs : SqL K H p xs) (hr : RepL K B xs (l.map enc))
    (J : Addr → List R' → S → Hp → Prop) (h0 : ∀ Dl, H Dl = none → J Dl [] s0 (upd H Dl (.lst []))) (hl : ∀ Dl acc s H', J Dl acc s H' → SqL K H' p xs)
    (hb : ∀ (Dl : Addr) (N : Hp → Prop) (T : Option R' × S → Prop) (x : α) v acc s H', J Dl acc s H' → Rep K B v (enc x) → acc.length < sizeLine → (∀ b s' H2, J Dl (acc ++ [b]) s' H2 → T (some b, s') → N H2) → (∀ s' H2, J Dl acc s' H2 → T (none, s') → N H2) → Post (f x s) T R →
      g v (wipe σ vs) H' (LcT σ vs tt te Dl N))
    (hd : ∀ Dl acc s H', J Dl acc s H' → Post (k (acc, s)) P R → Q (.ref Dl) H') : LcL K (.ref p) g tt te vs σ H Q := by
  refine ⟨p, rfl, ⟨xs, hs⟩, fun Dl hD => ?_⟩
  unfold compR at hP
  have hz : l.length ≤ 1000000 := by
    by_cases c : l.length ≤ 1000000
    · exact c
    · unfold guardR at hP; rw [if_neg c] at hP; exact hP.elim
  unfold guardR at hP
  rw [if_pos hz] at hP
  refine lc_list (K := K) (a := p) (xs := xs) (fun i H' => ∃ acc s, J Dl acc s H' ∧ acc.length ≤ i ∧ Post ((compL (l.drop i) s f).bind fun q => k (acc ++ q.1, q.2)) P R) ⟨[], s0, h0 Dl hD, Nat.le_refl _, hP⟩ (fun i H' _ ⟨acc, s, j, _⟩ => hl Dl acc s H' j) ?_ ?_
  · rintro i y H' hi ⟨acc, s, j, hn, q⟩
    have h1 := (List.getElem?_eq_some_iff.mp hi).1
    rw [hr.length, List.length_map] at h1
    obtain ⟨x, hx⟩ : ∃ x, l[i]? = some x := ⟨l[i], List.getElem?_eq_getElem h1⟩
    obtain ⟨u, hu, ru⟩ := hr.get (i := i) (d := enc x) (by rw [List.getElem?_map, hx]; rfl)
    rw [hi] at hu; cases hu
    exact hb Dl _ _ x y acc s H' j ru (Nat.lt_of_le_of_lt (Nat.le_trans hn (Nat.le_trans (Nat.le_of_lt h1) hz)) (by decide)) (fun b s' H2 j2 t2 => ⟨acc ++ [b], s', j2, by rw [List.length_append]; exact Nat.succ_le_succ hn, t2⟩) (fun s' H2 j2 t2 => ⟨acc, s', j2, Nat.le_succ_of_le hn, t2⟩) (q.compS hx)
  · rintro H' ⟨acc, s, j, _, q⟩
    rw [hr.length, List.length_map, List.drop_eq_nil_of_le (Nat.le_refl _)] at q
    have q2 : Post (k (acc ++ [], s)) P R := q
    rw [List.append_nil] at q2
    exact hd Dl acc s H' j q2
def LcR1 (ws : List V) (g : TG) (tt : TT) (te : TE) (vs : List Nat) (σ : L2.St) (H : Hp) (Q : VK) : Prop := tLc (iRng1 (fun _ H Q => Q ws H)) g tt te vs σ H Q
theorem h_lcR1E {vs : List Nat} {ta : TA} (h : ta σ H fun ws H1 => LcR1 ws g tt te vs σ H1 Q) : tLc (iRng1 ta) g tt te vs σ H Q := h
theorem h_lcR1 {hi : Int} {s0 : S} {f : Int → S → Res (Option R' × S)} {k : List R' × S → Res β} {vs : List Nat} (hP : Post ((compR (rngI 0 hi) s0 f).bind k) P R)
    (J : Addr → List R' → S → Hp → Prop) (h0 : ∀ Dl, H Dl = none → J Dl [] s0 (upd H Dl (.lst [])))
    (hb : ∀ (Dl : Addr) (N : Hp → Prop) (T : Option R' × S → Prop) (x : Int) acc s H', J Dl acc s H' → 0 ≤ x → x < hi → acc.length < sizeLine → (∀ b s' H2, J Dl (acc ++ [b]) s' H2 → T (some b, s') → N H2) → (∀ s' H2, J Dl acc s' H2 → T (none, s') → N H2) → Post (f x s) T R →
      g (.int x) (wipe σ vs) H' (LcT σ vs tt te Dl N))
    (hd : ∀ Dl acc s H', J Dl acc s H' → Post (k (acc, s)) P R → Q (.ref Dl) H') (hlo : -(2 ^ 62) ≤ hi) : LcR1 [.int hi] g tt te vs σ H Q := by
  unfold compR at hP
  have hz : (rngI 0 hi).length ≤ 1000000 := by
    by_cases c : (rngI 0 hi).length ≤ 1000000
    · exact c
    · unfold guardR at hP; rw [if_neg c] at hP; exact hP.elim
  unfold guardR at hP
  rw [if_pos hz] at hP
  rw [rngI_len, Int.sub_zero] at hz
  refine ⟨hi, rfl, hlo, by omega, fun Dl hD => ?_⟩
  refine lc_range (lo := 0) (n := hi.toNat) (fun i H' => ∃ acc s, J Dl acc s H' ∧ acc.length ≤ i ∧ Post ((compL ((rngI 0 hi).drop i) s f).bind fun q => k (acc ++ q.1, q.2)) P R) ⟨[], s0, h0 Dl hD, Nat.le_refl _, hP⟩ ?_ ?_
  · rintro i H' hi' ⟨acc, s, j, hn, q⟩
    have hx := rngI_get (lo := 0) (hi := hi) (i := i) (by omega)
    have e : (0 : Int) + (i : Int) = (i : Int) := Int.zero_add _
    exact hb Dl _ _ (0 + (i : Int)) acc s H' j (by omega) (by omega) (Nat.lt_of_le_of_lt (Nat.le_trans hn (Nat.le_trans (Nat.le_of_lt hi') hz)) (by decide)) (fun b s' H2 j2 t2 => ⟨acc ++ [b], s', j2, by rw [List.length_append]; exact Nat.succ_le_succ hn, t2⟩) (fun s' H2 j2 t2 => ⟨acc, s', j2, Nat.le_succ_of_le hn, t2⟩) (q.compS hx)
  · rintro H' ⟨acc, s, j, _, q⟩
    rw [List.drop_eq_nil_of_le (by rw [rngI_len]; omega)] at q
    have q2 : Post (k (acc ++ [], s)) P R := q
    rw [List.append_nil] at q2
    exact hd Dl acc s H' j q2
end

section
variable {K : PySem.W.Frag} {B B' H H' B0 H0 : Hp} {W : List Addr} {p : Addr} {xs : List V} {ds : List D} {v : V} {a b c d : L2.St → Hp → Prop} {rt : VK} {σ : L2.St}
theorem Rep.sqB (r : Rep K B v (.lst ds)) : ∃ p xs, v = .ref p ∧ SqL K B p xs ∧ RepL K B xs ds := by
  cases r with
  | @lst p xs _ hp r => exact ⟨p, xs, rfl, hp, r⟩
theorem Rep.stB (r : Rep K B v (.tup ds)) : ∃ p xs, v = .ref p ∧ SqT K B p xs ∧ RepL K B xs ds := by
  cases r with
  | @tup p xs _ hp r => exact ⟨p, xs, rfl, hp, r⟩
theorem Bor.sq0 (m : Bor K B0 H0 W v ds) : ∃ p xs, v = .ref p ∧ RepL K B0 xs ds ∧ ∀ B' H', Stp W B0 H0 B' H' → SqL K H' p xs := by
  obtain ⟨p, xs, e, hp, r⟩ := m
  refine ⟨p, xs, e, r, fun B' H' s => ?_⟩
  rcases hp with ⟨hp | ⟨o, hp⟩, hw⟩ | hp
  · exact .inl (.inl (s.fr p _ hw hp))
  · exact .inl (.inr ⟨o, s.fr p _ hw hp⟩)
  · exact .inr hp
theorem h_ct (h : d σ H) : tCont (Ends.mk a rt b d) σ H := h
theorem h_bk (h : b σ H) : tBreak (Ends.mk a rt b d) σ H := h
end

/-! ### lists that change -/
def setR {α : Type} (l : List α) (i : Int) (x : α) : Res (List α) := match ixN l.length i with | some j => .ok (l.set j x) | none => .stuck
def Bm (K : PySem.W.Frag) (T : String) (r : V → List V → Hp → VK → Prop) (t : TA) (σ : L2.St) (x : V) (H : Hp) (Q : VK) : Prop := tyV K T x H ∧ t σ H fun xs H2 => r x xs H2 Q
def Bm0 (K : PySem.W.Frag) (T : String) (r : V → List V → Hp → VK → Prop) (σ : L2.St) (x : V) (H : Hp) (Q : VK) : Prop := tyV K T x H ∧ r x [] H Q
section
variable {K : PySem.W.Frag} {σ : L2.St} {B H : Hp} {Q : VK} {p q : Addr} {v y : V} {te to ti : TE} {t : TA} {D' : Ends} {z : TS} {i : Int} {r : V → List V → Hp → VK → Prop}
theorem h_bm {T : String} (h : to σ H fun x H1 => Bm K T r t σ x H1 Q) : tBM K T r to t σ H Q := h
theorem h_bm0 {T : String} (h : to σ H fun x H1 => Bm0 K T r σ x H1 Q) : tBM0 K T r to σ H Q := h
theorem Mu.tyV {ds : List D} (m : Mu K B H p ds) : tyV K "list" (.ref p) H := by
  obtain ⟨hb, xs, hp, _⟩ := m
  exact .inl ⟨rfl, _, .inl (.inl hp)⟩
theorem h_bmL {ds : List D} (m : Mu K B H p ds) (h : t σ H fun xs H2 => r (.ref p) xs H2 Q) : Bm K "list" r t σ (.ref p) H Q := ⟨m.tyV, h⟩
theorem h_bmL0 {ds : List D} (m : Mu K B H p ds) (h : r (.ref p) [] H Q) : Bm0 K "list" r σ (.ref p) H Q := ⟨m.tyV, h⟩
theorem h_append {α : Type} [Enc α] {l : List α} {b : α} (w : Ex B H) (m : Mu K B H p (l.map enc)) (ry : Rep K B y (enc b)) (hz : l.length < 1000000) (h : ∀ H', Stp [p] B H B H' → Mu K B H' p ((l ++ [b]).map enc) → Q .non H') : rAppend (.ref p) [y] H Q := by
  obtain ⟨hb, xs, hp, hr⟩ := id m
  refine ⟨p, xs, y, rfl, rfl, hp, by rw [hr.length, List.length_map]; exact Nat.lt_of_lt_of_le hz (by decide), ?_⟩
  have rl : RepL K B (xs ++ [y]) ((l ++ [b]).map enc) := by
    rw [List.map_append]
    exact hr.append (.cons ry .nil)
  obtain ⟨s, m'⟩ := Stp.mut w m rl
  exact h _ s m'
theorem h_extend {α : Type} [Enc α] {l l2 : List α} (w : Ex B H) (m : Mu K B H p (l.map enc)) (m2 : Mu K B H q (l2.map enc)) (hz : l.length + l2.length ≤ 1000000) (h : ∀ H', Stp [p] B H B H' → Mu K B H' p ((l ++ l2).map enc) → Q .non H') : rExtend (.ref p) [.ref q] H Q := by
  obtain ⟨hb, xs, hp, hr⟩ := id m
  obtain ⟨hb2, ys, hp2, hr2⟩ := id m2
  refine ⟨p, q, xs, ys, rfl, rfl, hp, hp2, by rw [hr.length, hr2.length, List.length_map, List.length_map]; exact Nat.le_trans hz (by decide), ?_⟩
  have rl : RepL K B (xs ++ ys) ((l ++ l2).map enc) := by
    rw [List.map_append]
    exact hr.append hr2
  obtain ⟨s, m'⟩ := Stp.mut w m rl
  exact h _ s m'
theorem RepL.set : ∀ {vs : List V} {ds : List D} {j : Nat} {d : D}, RepL K B vs ds → Rep K B v d → RepL K B (vs.set j v) (ds.set j d)
  | _, _, _, _, .nil, _ => .nil
  | _, _, 0, _, .cons _ t, r => .cons r t
  | _, _, j + 1, _, .cons h t, r => .cons h (RepL.set t r)
theorem Post.set {α β : Type} {l : List α} {x : α} {k : List α → Res β} {P : β → Prop} {R : Err → Prop} (h : Post ((setR l i x).bind k) P R) : ∃ j, ixN l.length i = some j ∧ Post (k (l.set j x)) P R := by
  unfold setR at h
  cases e : ixN l.length i with
  | none => rw [e] at h; exact h.elim
  | some j => rw [e] at h; exact ⟨j, rfl, h⟩
def SubS (K : PySem.W.Frag) (to ti : TE) (σ : L2.St) (v : V) (H : Hp) (N : L2.St → Hp → Prop) : Prop := gSub to ti rSetL v σ H N
theorem h_sub {N : L2.St → Hp → Prop} (h : to σ H fun o H1 => ti σ H1 fun i H2 => rSetL o i v H2 fun H3 => N σ H3) : gSub to ti rSetL v σ H N := h
theorem h_asg {g : TG} (h : te σ H fun x H1 => g x σ H1 D'.nx) : tAsg te g D' σ H := h
theorem h_setL {α : Type} [Enc α] {l : List α} {b : α} {N : Hp → Prop} {j : Nat} (w : Ex B H) (m : Mu K B H p (l.map enc)) (ry : Rep K B v (enc b)) (hj : ixN l.length i = some j) (h : ∀ H', Stp [p] B H B H' → Mu K B H' p ((l.set j b).map enc) → N H') : rSetL (.ref p) (.int i) v H N := by
  obtain ⟨hb, xs, hp, hr⟩ := id m
  refine ⟨p, xs, i, j, rfl, rfl, hp, by rw [hr.length, List.length_map]; exact hj, ?_⟩
  have rl : RepL K B (xs.set j v) ((l.set j b).map enc) := by
    rw [List.map_set]
    exact hr.set ry
  obtain ⟨s, m'⟩ := Stp.mut w m rl
  exact h _ s m'
end

/-- a value with a name -/
def lt {α β : Type} (d : α) (k : α → Res β) : Res β := k d
theorem Post.lt {α β : Type} {d : α} {k : α → Res β} {P : β → Prop} {R : Err → Prop} (h : Post (Y.lt d k) P R) : Post (k d) P R := h

/-! ### lists put together, cut, compared; keywords alone -/
def rCatQ (K : PySem.W.Frag) : R2 := fun x y H Q => ∃ a b xs ys, x = .ref a ∧ y = .ref b ∧ SqL K H a xs ∧ SqL K H b ys ∧ xs.length + ys.length ≤ sizeLine ∧ NwL (xs ++ ys) H Q
theorem op_catQ {X : Cx} : OpR X (binaryOp .Add) (rCatQ X.K) := by
  intro pins s σ H x y v u Q I rx ry h
  obtain ⟨a, b, xs, ys, rfl, rfl, ha, hb, hz, q⟩ := h
  cases rx
  cases ry
  obtain ⟨its, r, p1, z1⟩ := I.list ha
  obtain ⟨its2, r2, p2, z2⟩ := I.list hb
  have hl1 := r.length
  have hl2 := r2.length
  obtain ⟨⟨cls, dd, data, sl⟩, ho, hc, n, hd⟩ := p1.isList
  obtain ⟨⟨cls2, dd2, data2, sl2⟩, ho2, hc2, n2, hd2⟩ := p2.isList
  simp only at hc hd hc2 hd2
  subst hc hd hc2 hd2
  have e : its.toArray ++ its2.toArray = (its ++ its2).toArray := by simp
  refine concat_meets ⟨_, ho, rfl⟩ ⟨_, ho2, rfl⟩ noFill_list_add seq_list_add PySem.F.slot_list_add PySem.F.entry_list_add (PySem.F.args_list_add_2 _ _) (list_addW a b its.toArray its2.toArray n n2 dd dd2 sl sl2 (by rw [List.size_toArray, List.size_toArray]; omega)) ⟨ho, ho2, ?_⟩
  rw [e]
  exact ⟨.ref _, _, I.lnew (t' := s.toks) (r.append r2) (by rw [List.length_append]; omega), rfl, q _ I.fresh⟩
def rSlQ (K : PySem.W.Frag) : V → Option Int → Option Int → Hp → VK → Prop := fun x lo hi H Q => ∃ a xs, x = .ref a ∧ SqL K H a xs ∧ NwL (cutV xs lo hi) H Q
theorem sl_Q {X : Cx} : SlR X (rSlQ X.K) := sl_list
/-- l[lo:hi] -/
def cutL {α : Type} (l : List α) (lo hi : Option Int) : List α := (l.drop (HT.sIx l.length 0 lo)).take (HT.sIx l.length l.length hi - HT.sIx l.length 0 lo)
mutual
/-- as the library's data -/
def pyD : D → PyData
  | .non => .none | .bl b => .bool b | .int i => .int i | .str x => .str x | .lst ds => .list (pyDs ds) | .tup ds => .tuple (pyDs ds) | .dic _ => .dict []
def pyDs : List D → List PyData
  | [] => []
  | d :: ds => pyD d :: pyDs ds
end
mutual
/-- no dict within -/
def flatD : D → Bool
  | .lst ds => flatDs ds | .tup ds => flatDs ds | .dic _ => false | _ => true
def flatDs : List D → Bool
  | [] => true
  | d :: ds => flatD d && flatDs ds
end
/-- == of data -/
def eqD (a b : D) : Bool := PyData.eqv (pyD a) (pyD b)
section
variable {K : PySem.W.Frag} {B B' H H' : Hp}
mutual
theorem Rep.dp (w : Ex B H) : ∀ {v : V} {d : D}, Rep K B v d → flatD d = true → Dp K H v (pyD d)
  | _, _, .non, _ => .non
  | _, _, .bl b, _ => .bl b
  | _, _, .int i, _ => .int i
  | _, _, .str x, _ => .str x
  | _, _, .lst h r, f => .lst (w.l h) (RepL.dp w r f)
  | _, _, .tup h r, f => .tup (w.t h) (RepL.dp w r f)
  | _, _, .dic h r, f => nomatch f
theorem RepL.dp (w : Ex B H) : ∀ {vs : List V} {ds : List D}, RepL K B vs ds → flatDs ds = true → DpAll K H vs (pyDs ds)
  | _, _, .nil, _ => .nil
  | _, _, .cons h t, f => by
    have f' : (flatD _ && flatDs _) = true := f
    rw [Bool.and_eq_true] at f'
    exact .cons (Rep.dp w h f'.1) (RepL.dp w t f'.2)
end
variable {σ : L2.St} {Q : VK} {x y v : V} {d e : D} {p q : Addr} {xs ys : List V} {i j k : Int} {tc te ta tb : TE} {lo hi : Option Int} {to tu : TO}
/-- what may be compared by == here -/
def okEq (d e : D) : Prop := flatD d = true ∧ flatD e = true ∧ SeqAt.shaped (pyD d) = true ∧ SeqAt.shaped (pyD e) = true
instance (d e : D) : Decidable (okEq d e) := by unfold okEq; infer_instance
theorem h_eqD (w : Ex B H) (rx : Rep K B x d) (ry : Rep K B y e) (o : okEq d e) (h : Q (.bl (eqD d e)) H) : rEqD K x y H Q := ⟨_, _, rx.dp w o.1, ry.dp w o.2.1, o.2.2.1, o.2.2.2, h⟩
theorem h_neD (w : Ex B H) (rx : Rep K B x d) (ry : Rep K B y e) (o : okEq d e) (h : Q (.bl (!eqD d e)) H) : rNeD K x y H Q := ⟨_, _, rx.dp w o.1, ry.dp w o.2.1, o.2.2.1, o.2.2.2, h⟩
theorem h_cat (s1 : SqL K H p xs) (s2 : SqL K H q ys) (hz : xs.length + ys.length ≤ sizeLine) (h : NwL (xs ++ ys) H Q) : rCatQ K (.ref p) (.ref q) H Q := ⟨p, q, xs, ys, rfl, rfl, s1, s2, hz, h⟩
theorem RepL.cat {α : Type} [Enc α] {l l2 : List α} (r : RepL K B xs (l.map enc)) (r2 : RepL K B ys (l2.map enc)) : RepL K B (xs ++ ys) ((l ++ l2).map enc) := by
  rw [List.map_append]; exact r.append r2
theorem RepL.take : ∀ {vs : List V} {ds : List D} (n : Nat), RepL K B vs ds → RepL K B (vs.take n) (ds.take n)
  | _, _, 0, _ => .nil
  | _, _, _ + 1, .nil => .nil
  | _, _, n + 1, .cons r t => .cons r (RepL.take n t)
theorem RepL.drop : ∀ {vs : List V} {ds : List D} (n : Nat), RepL K B vs ds → RepL K B (vs.drop n) (ds.drop n)
  | _, _, 0, r => r
  | _, _, _ + 1, .nil => .nil
  | _, _, n + 1, .cons _ t => RepL.drop n t
theorem RepL.cut {α : Type} [Enc α] {l : List α} (r : RepL K B xs (l.map enc)) (lo hi : Option Int) : RepL K B (cutV xs lo hi) ((cutL l lo hi).map enc) := by
  unfold cutV cutL
  rw [List.map_take, List.map_drop, r.length, List.length_map]
  exact (r.drop _).take _
theorem h_sl {r : V → Option Int → Option Int → Hp → VK → Prop} (h : te σ H fun x H1 => to σ H1 fun l H2 => tu σ H2 fun u H3 => r x l u H3 Q) : tSl r te to tu σ H Q := h
theorem h_part {N : Option Int → Hp → Prop} (h : te σ H fun x H1 => ∃ i, x = .int i ∧ N (some i) H1) : tPart te σ H N := h
theorem h_isI {f : Int → Prop} (h : f i) : ∃ j, V.int i = .int j ∧ f j := ⟨i, rfl, h⟩
theorem h_nopart {N : Option Int → Hp → Prop} (h : N none H) : tNoPart σ H N := h
theorem h_slQ (s : SqL K H p xs) (h : NwL (cutV xs lo hi) H Q) : rSlQ K (.ref p) lo hi H Q := ⟨p, xs, rfl, s, h⟩
theorem h_ch {g g' : Int → Int → Bool} (hc : ∀ Q : VK, Q (.int k) H → tc σ H Q) (h : Q (.bl (g i j && g' j k)) H) :
    rI0 (fun i j => .bl (g i j)) (.int i) (.int j) H (fun z H3 => ∃ c, z = .bl c ∧ (if c = true then tc σ H3 fun w' H4 => rI0 (fun i j => .bl (g' i j)) (.int j) w' H4 Q else Q (.bl false) H3)) := by
  refine ⟨i, j, rfl, rfl, g i j, rfl, ?_⟩
  cases e : g i j with
  | true =>
    refine h_iteT (hc _ ?_)
    rw [e, Bool.true_and] at h
    exact ⟨j, k, rfl, rfl, h⟩
  | false =>
    rw [e, Bool.false_and] at h
    exact h_iteF h
end
/-- f(k = v, ..) -/
def tCallK0 (sp : Sp) (gV : List V → List V) (E : XK) (tk : TA) : TE := fun σ H Q => tk σ H fun zs H2 => sp (gV zs) H2 Q E
theorem pe_callK0 {X : Cx} {CX : CXT} {k : Nat} {f : Addr} {fd : FuncData} {ps ks : List Str} {sp : Sp} {E : XK} {x : Str} {p pos : Pos} {kws : List Keyword} {tk : TA} {g : List Value → List Value → List Value} {gV : List V → List V → List V}
    (F : FnOk X.prog X.w X.K X.mg X.base CX k f fd ps sp) (hr : Room k X.A) (hg : Gl X x) (hm : X.mg x = some (.ref f)) (hk : PySem.W.keepIn X.K (.ref f) = true) (hb : KBinds X.K fd ps ks g gV) (hx : Passes CX X E)
    (hkw : PK X kws tk) (hall : (backToKw pos (keywordEach kws X.env)).all (·.1.isSome) = true := by rfl) (hks : (backToKw pos (keywordEach kws X.env)).filterMap (·.1) = ks := by rfl)
    (hdb : (x == ("__debug__" : Str)) = false := by decide)
    (hpl : ((backTo pos (starEach [] X.env)).any (·.1) || (backToKw pos (keywordEach kws X.env)).any (·.1.isNone)) = false := by rfl) :
    PE X (.Call (.Name x p) [] kws pos) (tCallK0 sp (gV []) E tk) := by
  refine ⟨fun pins s σ H Q I h => ?_⟩
  refine wpAny_Call_Name_kw (ld_glob I hg hm ?_ hdb)
  refine PySem.W.callWith_KW0 (h₀ := X.base) I.ok.mod.kin hk hall ?_ hpl
  refine thn (hkw.run pos pins s σ H _ I h) fun ws s2 ⟨zs, H2, I2, rz, q2⟩ => ⟨I2.kIn, ?_⟩
  rw [hks]
  exact run_fnk F hr hb hx I2 .nil rz q2
theorem h_callK0 {σ : L2.St} {H : Hp} {Q : VK} {sp : Sp} {gV : List V → List V} {E : XK} {tk : TA} (h : tk σ H fun zs H2 => sp (gV zs) H2 Q E) : tCallK0 sp gV E tk σ H Q := h
theorem h_callK {σ : L2.St} {H : Hp} {Q : VK} {sp : Sp} {gV : List V → List V → List V} {E : XK} {t tk : TA} (h : t σ H fun vs H1 => tk σ H1 fun zs H2 => sp (gV vs zs) H2 Q E) : tCallK sp gV E t tk σ H Q := h
theorem hu64_of {A : Around} {k : Nat} (hr : Room k A) : A.units + 64 < cLine := Nat.lt_of_le_of_lt (Nat.add_le_add_left (by decide : 64 ≤ 64) _) hr.units

/-! ### dicts as data -/
section
variable {K : PySem.W.Frag} {B H : Hp} {σ : L2.St} {Q : VK} {tk tv : TE} {v : V} {d : D} {i : Int} {p : Addr} {xs : List V}
theorem h_disp1I (hk : ∀ (H' : Hp) (Q : VK), Q (.int i) H' → tk σ H' Q) (hv : ∀ (H' : Hp) (Q : VK), Q v H' → tv σ H' Q) (w : Ex B H) (rv : Rep K B v d)
    (h : ∀ p B' H', Stp [] B H B' H' → Rep K B' (.ref p) (.dic [(.inl i, d)]) → Q (.ref p) H') : tDisp [(tk, tv)] σ H Q := fun p hp => by
  show tk σ (upd H p (.dK [])) _
  refine hk _ _ (hv _ _ ⟨upd_same, [(.inl i, v)], rfl, (by show 1 ≤ 15; decide), ?_⟩)
  rw [upd_upd]
  have hb := w.none hp
  exact h p _ _ (Stp.new w hp) (.dic upd_same (.cons (rv.mono (Ex.new hb)) .nil))
theorem h_dnew (w : Ex B H) (h : ∀ p B' H', Stp [] B H B' H' → Rep K B' (.ref p) (.dic []) → Q (.ref p) H') : tDNewK σ H Q := fun p hp => h p _ _ (Stp.new w hp) (.dic upd_same .nil)
def rDictP (K : PySem.W.Frag) : List V → Hp → VK → Prop := fun xs H Q => ∃ (a : Addr) (ps : List Addr) (kvs : List (Key × V)), xs = [.ref a] ∧ SqL K H a (ps.map V.ref) ∧ Paired (fun p kv => SqT K H p [kV kv.1, kv.2]) ps kvs ∧
    ∀ p, H p = none → Q (.ref p) (upd H p (.dK (mergeK [] kvs)))
theorem cr_dict {X : Cx} (hc : X.calm = true) : CallR X (.type "dict") (rDictP X.K) := call_dictP hc
def vD : V → D
  | .int i => .int i | .bl b => .bl b | .str x => .str x | _ => .non
/-- dict(pairs of ints), as data -/
def dictI (l : List (Tp2 Int Int)) : List (Key × D) := (mergeK [] (l.map fun t => ((Sum.inl t.a : Key), V.int t.b))).map fun kv => (kv.1, vD kv.2)
theorem putK_ints {kvs : List (Key × V)} {k : Key} {j : Int} (h : ∀ kv ∈ kvs, ∃ i, kv.2 = V.int i) : ∀ kv ∈ putK kvs k (V.int j), ∃ i, kv.2 = V.int i := by
  intro kv m
  unfold putK at m
  split at m
  · obtain ⟨q, hq, e⟩ := List.mem_map.mp m
    rw [← e]
    split
    · exact ⟨j, rfl⟩
    · exact h q hq
  · rcases List.mem_append.mp m with m | m
    · exact h kv m
    · rw [List.mem_singleton.mp m]; exact ⟨j, rfl⟩
theorem merge_ints : ∀ {l : List (Tp2 Int Int)} {acc : List (Key × V)}, (∀ kv ∈ acc, ∃ i, kv.2 = V.int i) → ∀ kv ∈ mergeK acc (l.map fun t => ((Sum.inl t.a : Key), V.int t.b)), ∃ i, kv.2 = V.int i
  | [], _, h => h
  | t :: r, acc, h => merge_ints (l := r) (putK_ints h)
theorem RepK.ints : ∀ {kvs : List (Key × V)}, (∀ kv ∈ kvs, ∃ i, kv.2 = V.int i) → RepK K B kvs (kvs.map fun kv => (kv.1, vD kv.2))
  | [], _ => .nil
  | (k, v) :: r, h => by
    obtain ⟨i, e⟩ := h (k, v) List.mem_cons_self
    have e' : v = V.int i := e
    subst e'
    exact .cons (.int i) (RepK.ints fun kv m => h kv (List.mem_cons_of_mem _ m))
theorem pairs_D (w : Ex B H) : ∀ {xs : List V} {l : List (Tp2 Int Int)}, RepL K B xs (l.map enc) → ∃ ps : List Addr, xs = ps.map V.ref ∧ Paired (fun p (kv : Key × V) => SqT K H p [kV kv.1, kv.2]) ps (l.map fun t => ((Sum.inl t.a : Key), V.int t.b))
  | [], [], _ => ⟨[], rfl, .nil⟩
  | _ :: _, [], r => nomatch r
  | [], _ :: _, r => nomatch r
  | v :: vs, t :: l, r => by
    cases r with
    | cons h q =>
      obtain ⟨ps, e, pr⟩ := pairs_D w q
      obtain ⟨p, ys, rfl, hs, hr⟩ := Rep.st w (show Rep K B v (.tup [enc t.a, enc t.b]) from h)
      cases hr with
      | cons h1 t1 =>
        cases t1 with
        | cons h2 t2 =>
          cases t2
          cases h1
          cases h2
          exact ⟨p :: ps, by rw [e]; rfl, .cons hs pr⟩
theorem h_dictP {l : List (Tp2 Int Int)} (w : Ex B H) (s : SqL K H p xs) (r : RepL K B xs (l.map enc)) (h : ∀ p B' H', Stp [] B H B' H' → Rep K B' (.ref p) (.dic (dictI l)) → Q (.ref p) H') : rDictP K [.ref p] H Q := by
  obtain ⟨ps, e, pr⟩ := pairs_D w r
  subst e
  exact ⟨p, ps, _, rfl, s, pr, fun q hq => h q _ _ (Stp.new w hq) (.dic upd_same (RepK.ints (merge_ints fun _ m => nomatch m)))⟩
end
theorem RepL.toD {K : PySem.W.Frag} {B : Hp} {α : Type} [Enc α] {xs : List V} {l : List α} (r : RepL K B xs (l.map enc)) : RepL K B xs ((l.map enc : List D).map enc) := by
  have e : (l.map enc : List D).map enc = l.map enc := List.map_id' _
  rw [e]; exact r
/-- a thing that is an int -/
def asI (d : D) : Res Int := match d with | .int i => .ok i | _ => .stuck
theorem Post.asI {β : Type} {d : D} {k : Int → Res β} {P : β → Prop} {R : Err → Prop} (h : Post ((Y.asI d).bind k) P R) : ∃ i, d = .int i ∧ Post (k i) P R := by
  cases d with
  | int i => exact ⟨i, rfl, h⟩
  | _ => exact h.elim
/-- a pair taken apart -/
def un2 {α β γ : Type} (k : α → β → γ) (p : α × β) : γ := k p.1 p.2
theorem Post.un2 {α β γ : Type} {k : α → β → Res γ} {a : α} {b : β} {P : γ → Prop} {R : Err → Prop} (h : Post (Y.un2 k (a, b)) P R) : Post (k a b) P R := h
/-- a thing that is a list | a tuple -/
def asL (d : D) : Res (List D) := match d with | .lst l => .ok l | _ => .stuck
def asT (d : D) : Res (List D) := match d with | .tup l => .ok l | _ => .stuck
theorem enc_Ds (l : List D) : (l.map enc : List D) = l := List.map_id' _
theorem Post.asL {β : Type} {d : D} {k : List D → Res β} {P : β → Prop} {R : Err → Prop} (h : Post ((Y.asL d).bind k) P R) : ∃ l : List D, d = .lst (l.map enc) ∧ Post (k l) P R := by
  cases d with
  | lst l => exact ⟨l, by rw [enc_Ds], h⟩
  | _ => exact h.elim
theorem Post.asT {β : Type} {d : D} {k : List D → Res β} {P : β → Prop} {R : Err → Prop} (h : Post ((Y.asT d).bind k) P R) : ∃ l : List D, d = .tup (l.map enc) ∧ Post (k l) P R := by
  cases d with
  | tup l => exact ⟨l, by rw [enc_Ds], h⟩
  | _ => exact h.elim
section
variable {K : PySem.W.Frag} {B H : Hp} {Q : VK} {p : Addr} {xs : List V}
theorem RepL.bools : ∀ {xs : List V} {bs : List Bool}, RepL K B xs (bs.map enc) → xs = bs.map V.bl
  | [], [], _ => rfl
  | _ :: _, [], r => nomatch r
  | [], _ :: _, r => nomatch r
  | v :: vs, b :: bs, r => by
    cases r with
    | cons h t =>
      cases h
      rw [RepL.bools t]
      rfl
theorem RepL.intsV : ∀ {xs : List V} {bs : List Int}, RepL K B xs (bs.map enc) → xs = bs.map V.int
  | [], [], _ => rfl
  | _ :: _, [], r => nomatch r
  | [], _ :: _, r => nomatch r
  | v :: vs, b :: bs, r => by
    cases r with
    | cons h t =>
      cases h
      rw [RepL.intsV t]
      rfl
theorem h_all {bs : List Bool} (s : SqL K H p xs) (r : RepL K B xs (bs.map enc)) (h : Q (.bl (bs.all id)) H) : rAll K [.ref p] H Q := ⟨p, bs, rfl, by rw [← r.bools]; exact s, h⟩
theorem h_any {bs : List Bool} (s : SqL K H p xs) (r : RepL K B xs (bs.map enc)) (h : Q (.bl (bs.any id)) H) : rAny K [.ref p] H Q := ⟨p, bs, rfl, by rw [← r.bools]; exact s, h⟩
theorem h_sum {ns : List Int} (s : SqL K H p xs) (r : RepL K B xs (ns.map enc)) (h : Q (.int ns.sum) H) : rSum K [.ref p] H Q := ⟨p, ns, rfl, by rw [← r.intsV]; exact s, h⟩
end
/-! ### the top -/
/-- the law's promise -/
def spTop (K : PySem.W.Frag) : Sp := fun vs H Q _ => ∃ (a : Addr) (ns : List Int), vs = [.ref a] ∧ ns.length ≤ 63 ∧ SqL K H a (ns.map V.int) ∧ ∀ H', Q (.bl true) H'
theorem top_of {K : PySem.W.Frag} {m : List Int → Res Bool} (hm : ∀ ns : List Int, ns.length ≤ 63 → m ns = .ok true) {vs : List V} {H : Hp} {Q : VK} {E : XK} (h : spTop K vs H Q E) :
    ∃ (B : Hp) (v : V) (a : List Int), Ex B H ∧ vs = [v] ∧ Bor K B H [] v (a.map enc) ∧ Post (m a) (fun r => Ret K [] B H (enc r) Q) (fun _ => False) := by
  obtain ⟨a, ns, e, hl, hs, k⟩ := h
  refine ⟨H, .ref a, ns, Ex.refl H, e, ⟨a, _, rfl, ?_, RepL.ints ns⟩, ?_⟩
  · rcases hs with hs | hs
    · exact .inl ⟨hs, fun z => nomatch z⟩
    · exact .inr hs
  · rw [hm ns hl]
    refine ⟨fun v B' H' st r => ?_⟩
    cases r
    exact k H'
theorem walk_top {l : PySem.W.OpenLaw} {q : Program} {loose : List Str} {XP : (Str → Option Value) → Heap → Prop} {YP : World → Heap → Prop} {d : DefRec} {K : Params → PySem.W.Frag} {x : Str} {k : Nat} (hn : l.most = some 63) (hdf : d.params.defaults = [])
    (hr : Room k callerA) (hY : ∀ (w : World) (h : Heap), YP w h → (K w.params).In h)
    (F : ∀ (w : World) (mg : Str → Option Value) (fa : Addr) (h : Heap), (K w.params).In h → h.Ns mainGlobals mg → mg d.name = some (.ref fa) →
      ∃ fd : FuncData, (∀ (s : Shared) (u : Value), BindsTo s fd ⟨[u], []⟩ [(x, u)]) ∧ ∀ base : Heap, (K w.params).In base → base.Ns mainGlobals mg → FnOk l.prog w (K w.params) mg base CX0 k fa fd [x] (spTop (K w.params))) :
    PySem.W.WalkO q loose XP YP l.row.toRowW d [] (fun f vs => PySem.call f vs) :=
  L2.walk_of (n := 63) (k := k) (x := x) (CX := fun _ => CX0) (sp := fun w => spTop (K w.params)) hn (by decide) hdf hr hY F (fun _ _ a ns hl _ hS => ⟨a, ns, rfl, hl, hS, fun _ => rfl⟩) fun _ _ _ _ _ z => z
/-- how its arguments bind by keywords -/
theorem _root_.L2.Fun.kb {K : PySem.W.Frag} {x qual : Str} {st : Stmt} {f : Addr} {fd : FuncData} {ps ks : List Str} {g : List Value → List Value → List Value} {gV : List V → List V → List V} (F : Fun K x qual st f fd)
    (h : ∀ (kV doc pm : Value) (an : Option Addr) (cdv ct : Value) (us ws : List Value), (g us ws).length = ps.length → bindArgs (PySem.W.fnOf x qual (defArgs st) (defBody st) (defScope st) .none kV doc pm an cdv ct) ⟨us, ks.zip ws⟩ = pure (ps.zip (g us ws)))
    (r : ∀ {vs : List V} {us : List Value} {zs : List V} {ws : List Value}, Vals vs us → Vals zs ws → Vals (gV vs zs) (g us ws)) : KBinds K fd ps ks g gV := by
  obtain ⟨oc, od, kV, doc, pm, an, cdv, ct, osl, rfl, lk, hcd⟩ := F.ex
  exact ⟨fun s us ws _ hl => .of_eq (h kV doc pm an cdv ct us ws hl), r⟩

/-! ### while -/
def whileR {S R : Type} : Nat → S → (S → Res (Fl S R)) → Res (Fl S R)
  | 0, _, _ => .stuck
  | n + 1, s, g => (g s).bind fun r => match r with | .nx s' => whileR n s' g | r => .ok r
section
variable {K : PySem.W.Frag} {σ : L2.St} {H : Hp} {Q : VK} {tb t : TS} {c : TT} {D' : Ends} {S β : Type} {P : β → Prop} {E : Err → Prop}
theorem h_while {n : Nat} {s0 : S} {f : S → Res (Fl S β)} {k : S → Res β} (hP : Post ((whileR n s0 f).bind (afterR k)) P E) (J : S → L2.St → Hp → Prop) (h0 : J s0 σ H)
    (hb : ∀ (N : L2.St → Hp → Prop) (C : (L2.St → Hp → Prop) → Prop) (T : Fl S β → Prop) s σ' H', J s σ' H' → C N → (∀ s' σ2 H2, J s' σ2 H2 → T (.nx s') → N σ2 H2) → (∀ r, T (.rt r) → P r) → (∀ s' σ2 H2, J s' σ2 H2 → T (.bk s') → D'.nx σ2 H2) → Post (f s) T E →
      c σ' H' fun b H1 => if b = true then ∃ N, C N ∧ tb { D' with nx := N, ct := N, bk := D'.nx } σ' H1 else D'.nx σ' H1)
    (hd : ∀ s σ' H', J s σ' H' → Post (k s) P E → D'.nx σ' H') : tWhile c tb D' σ H := by
  refine ⟨fun m σ' H' => ∃ s, J s σ' H' ∧ Post (whileR m s f) (fun a => Post (afterR k a) P E) E, ⟨n, s0, h0, hP.bind⟩, ?_⟩
  rintro m σ' H' ⟨s, j, q⟩
  cases m with
  | zero => exact Post.elim q
  | succ m =>
    refine hb (fun σ2 H2 => ∃ s', J s' σ2 H2 ∧ Post (whileR m s' f) (fun a => Post (afterR k a) P E) E) (fun N => ∀ σ2 H2, N σ2 H2 → ∃ m', m' < m + 1 ∧ ∃ s, J s σ2 H2 ∧ Post (whileR m' s f) (fun a => Post (afterR k a) P E) E)
      (fun r => match r with | .nx s' => Post (whileR m s' f) (fun a => Post (afterR k a) P E) E | .rt r => Post (.ok r) P E | .bk s' => Post (k s') P E) s σ' H' j (fun σ2 H2 h => ⟨m, Nat.lt_succ_self m, h⟩)
      (fun s' σ2 H2 j2 t2 => ⟨s', j2, t2⟩) (fun r t2 => Post.ok t2) (fun s' σ2 H2 j2 t2 => hd s' σ2 H2 j2 t2) ?_
    refine (Post.bind q).mono (fun r q => ?_) fun _ q => q
    cases r with
    | nx s' => exact q
    | rt r => exact q.ok
    | bk s' => exact q.ok
theorem h_par {i j : Nat} {ta : TA} (h : ta σ H fun vs H1 => ∃ v w, vs = [v, w] ∧ D'.nx ((σ.set i (some v)).set j (some w)) H1) : tPar i j ta D' σ H := h
theorem h_two {N : V → V → Prop} {x y : V} (h : N x y) : ∃ v w, [x, y] = [v, w] ∧ N v w := ⟨x, y, rfl, h⟩

/-! ### errors -/
def tryR {α : Type} (m : Res α) (h : Err → Res α) : Res α := match m with | .ok a => .ok a | .err e => h e | .stuck => .stuck
theorem Post.tr {α : Type} {m : Res α} {h : Err → Res α} {P : α → Prop} {R : Err → Prop} (q : Post (tryR m h) P R) : Post m P (fun e => Post (h e) P R) := by
  obtain ⟨q⟩ := q
  refine ⟨?_⟩
  cases m
  · exact q
  · exact ⟨q⟩
  · exact q
theorem h_tryJ {m : Res (Fl S β)} {h : Err → Res (Fl S β)} {k : S → Res β} (hP : Post ((tryR m h).bind (afterR k)) P E) (J : S → L2.St → Hp → Prop)
    (h1 : ∀ (N : L2.St → Hp → Prop) (T : Fl S β → Prop), (∀ s σ' H', J s σ' H' → T (.nx s) → N σ' H') → (∀ r, T (.rt r) → P r) → Post m T (fun e => Post (h e) T E) → t { D' with nx := N } σ H)
    (h2 : ∀ s σ' H', J s σ' H' → Post (k s) P E → D'.nx σ' H') : t D' σ H := by
  refine h1 _ (fun a => Post (afterR k a) P E) (fun s σ' H' j q => h2 s σ' H' j q) (fun r q => (q : Post (.ok r) P E).ok) ?_
  exact (Post.bind hP).tr
/-- what the written part says of an error's class -/
structure ExcT (K : PySem.W.Frag) (mg : Str → Option Value) (nm : Str) (C : Addr) : Prop where
  g : mg nm = some (.ref C)
  ec : ExcC K C
  ty : PySem.W.typeIn K (.ref C) = some (.type "type")
  kp : PySem.W.keepIn K (.ref C) = true
  ve : PySem.W.subIn K (.ref C) (.type "ValueError") = some true
  is : PySem.W.isClsIn K C = true
  self : PySem.W.subIn K (.ref C) (.ref C) = some true
/-- an error that is raised with a text alone -/
structure ExcR (K : PySem.W.Frag) (mg : Str → Option Value) (nm : Str) (C : Addr) : Prop extends ExcT K mg nm C where
  ex : PySem.W.excIn K C [.type "ValueError", .type "Exception", .type "BaseException", .type "object"] "ValueError.__new__" = true
theorem ExcT.names {X : Cx} {nm : Str} {C : Addr} (T : ExcT X.K X.mg nm C) (hg : Gl X nm) (hd : (nm == ("__debug__" : Str)) = false) : Names X nm (.ref C) := ⟨hg, hd, .inl T.g⟩
theorem ExcT.exm {mg : Str → Option Value} {nm : Str} {C : Addr} (T : ExcT K mg nm C) {cls : Value} {b : Bool} (h : PySem.W.subIn K cls (.ref C) = some b) : PySem.W.exmOne K cls (.ref C) = some b := PySem.W.exm_ref T.ec.hs T.ec.hd T.ty h
theorem ExcT.kit {mg : Str → Option Value} {nm : Str} {C C2 : Addr} (T : ExcT K mg nm C) {b : Bool} (h : PySem.W.subIn K (.ref C2) (.ref C) = some b) : PySem.W.kitOne K (.ref C2) (.ref C) = some b := by
  unfold PySem.W.kitOne
  by_cases e : (Value.ref C2 == Value.ref C) = true
  · rw [if_pos e]
    have e2 : C2 = C := Value.ref.inj (beq_iff_eq.mp e)
    subst e2
    exact T.self.symm.trans h
  · rw [if_neg e]
    have h2 : (PySem.W.clsIn K C).isSome = true := T.is
    show (if ((PySem.W.clsIn K C).isSome && PySem.W.typeIn K (.ref C) == some (.type "type")) = true then PySem.W.subIn K (.ref C2) (.ref C) else none) = some b
    rw [if_pos (by rw [h2, T.ty] <;> rfl)]
    exact h
theorem ExcT.kitVE {mg : Str → Option Value} {nm : Str} {C : Addr} (T : ExcT K mg nm C) : PySem.W.kitOne K (.ref C) (.type "ValueError") = some true := by
  unfold PySem.W.kitOne
  rw [if_neg (by simp)]
  show (if PySem.W.kitMeta "ValueError" = true then PySem.W.subIn K (.ref C) (.type "ValueError") else none) = some true
  rw [if_pos (by decide +kernel)]
  exact T.ve
def tIsE (K : PySem.W.Frag) (a : Addr) (cls : Value) (d : Option Addr) (targs : TA) : TE := fun σ H Q => ∃ Dc, cls = .ref Dc ∧ d = none ∧ ExcC K Dc ∧ tCB (rIsE K Dc a) targs σ H Q
theorem pe_isE {X : Cx} {e : Expr} {a : Addr} {cls : Value} {d : Option Addr} {targs : TA} (hK : X.K = K) (h : ∀ Dc, cls = .ref Dc → d = none → ExcC K Dc → PE X e (tCB (rIsE K Dc a) targs)) : PE X e (tIsE K a cls d targs) :=
  ⟨fun pins s σ H Q I q => by
    obtain ⟨Dc, e1, e2, ec, q⟩ := q
    exact (h Dc e1 e2 ec).run pins s σ H Q I q⟩
theorem h_isE {a C : Addr} {targs : TA} {mg : Str → Option Value} {nm : Str} (T : ExcT K mg nm C) (h : targs σ H fun vs H1 => rIsE K C a vs H1 Q) : tIsE K a (.ref C) none targs σ H Q := ⟨C, rfl, rfl, T.ec, h⟩
theorem h_isER {a C C2 : Addr} {b : Bool} (h : PySem.W.kitOne K (.ref C) (.ref C2) = some b) (q : Q (.bl b) H) : rIsE K C a [.ref a, .ref C2] H Q := ⟨.ref C2, .ref C2, b, rfl, fun _ r => r, h, q⟩
theorem h_isEB {a C : Addr} {n : String} {b : Bool} (h : PySem.W.kitOne K (.ref C) (.type n) = some b) (q : Q (.bl b) H) : rIsE K C a [.ref a, .ty n] H Q := ⟨.ty n, .type n, b, rfl, fun _ r => r, h, q⟩
/-- the clause of a try meets the error -/
theorem h_wAs {C S' : Addr} {i : Nat} {ts : Addr → Value → Option Addr → TS} {Wout : WX} {mg : Str → Option Value} {nm : Str} (T : ExcT K mg nm S') (hs : PySem.W.subIn K (.ref C) (.ref S') = some true)
    (h : ∀ a, H a = none → ts a (.ref C) none { nx := fun σ' H' => D'.nx (σ'.set i none) H', rt := D'.rt, bk := fun σ' H' => D'.bk (σ'.set i none) H', ct := fun σ' H' => D'.ct (σ'.set i none) H' } (σ.set i (some (.ref a))) H) :
    wAs K (.ref S') i ts Wout D' (.ref C) none σ H := ⟨true, T.exm hs, fun _ a ha => h a ha, fun q => nomatch q⟩
theorem h_wOnly {C S' : Addr} {ts : Addr → Value → Option Addr → TS} {Wout : WX} {mg : Str → Option Value} {nm : Str} (T : ExcT K mg nm S') (hs : PySem.W.subIn K (.ref C) (.ref S') = some true)
    (h : ∀ a, H a = none → ts a (.ref C) none D' σ H) : wOnly K (.ref S') ts Wout D' (.ref C) none σ H := ⟨true, T.exm hs, fun _ a ha => h a ha, fun q => nomatch q⟩
end

/-! ### a try by its name -/
def tTryA (K : PySem.W.Frag) (c : Value) (i : Nat) (ts : Addr → Value → Option Addr → TS) (Wout : WX) (tb : WX → TS) : TS := fun D σ H => tb (wAs K c i ts Wout D) D σ H
def tTryO (K : PySem.W.Frag) (c : Value) (ts : Addr → Value → Option Addr → TS) (Wout : WX) (tb : WX → TS) : TS := fun D σ H => tb (wOnly K c ts Wout D) D σ H
section
variable {X : Cx} {n x : Str} {c : Value} {i : Nat} {body suite : List Stmt} {b₀ : Stmt} {np pos pos' : Pos} {tb : WX → TS} {ts : Addr → Value → Option Addr → TS} {Wout : WX} {D' : Ends} {σ : L2.St} {H : Hp} {K : PySem.W.Frag}
theorem ps_tryA (hs : X.stack = X.env :: X.outer) (hf : X.env.frame = some X.env.locals) (hN : X.N.Nodup) (hi : X.N[i]? = some n) (hln : X.env.kindOf n = some .local) (hc : Names X x c) (tk : Takes X Wout)
    (hb : ∀ (W : WX) (pn : List (Addr × Obj)) (xe : Value → Shared → Prop), Takes (X.tr pn xe) W → PassesOwn (model X.prog X.w) X.A X.env xe → PSs (X.tr pn xe) body (tb W))
    (hsu : ∀ (a : Addr) (oe : Obj) (cls : Value) (d : Option Addr) (pn : List (Addr × Obj)), Zc cls d oe → (∃ vs, oe.data = .fields vs) → PSs (X.suite a ((a, oe) :: pn)) (b₀ :: suite) (ts a cls d)) (hK : X.K = K := by rfl) :
    PS X (.Try body [.ExceptHandler (some (.Name x np)) (some n) (b₀ :: suite) pos'] [] [] pos) (tTryA K c i ts Wout tb) := hK ▸ ps_try_as hs hf hN hi hln hc tk hb hsu
theorem ps_tryO (hs : X.stack = X.env :: X.outer) (hf : X.env.frame = some X.env.locals) (hc : Names X x c) (tk : Takes X Wout)
    (hb : ∀ (W : WX) (pn : List (Addr × Obj)) (xe : Value → Shared → Prop), Takes (X.tr pn xe) W → PassesOwn (model X.prog X.w) X.A X.env xe → PSs (X.tr pn xe) body (tb W))
    (hsu : ∀ (a : Addr) (oe : Obj) (cls : Value) (d : Option Addr) (pn : List (Addr × Obj)), Zc cls d oe → (∃ vs, oe.data = .fields vs) → PSs (X.suite a ((a, oe) :: pn)) (b₀ :: suite) (ts a cls d)) (hK : X.K = K := by rfl) :
    PS X (.Try body [.ExceptHandler (some (.Name x np)) none (b₀ :: suite) pos'] [] [] pos) (tTryO K c ts Wout tb) := hK ▸ ps_try_only hs hf hc tk hb hsu
theorem h_tryA (h : tb (wAs K c i ts Wout D') D' σ H) : tTryA K c i ts Wout tb D' σ H := h
theorem h_tryO (h : tb (wOnly K c ts Wout D') D' σ H) : tTryO K c ts Wout tb D' σ H := h
end
theorem Post.mono2 {α : Type} {m : Res α} {P P' : α → Prop} {R R' : Err → Prop} (h : Post m P R) (hr : ∀ e, R e → R' e) (hp : ∀ a, P a → P' a) : Post m P' R' := h.mono hp hr
theorem boot_ValueError : bootBuiltins "ValueError" = some (.type "ValueError") := by decide +kernel
/-! ### things that are lists or tuples -/
def lenD (d : D) : Res Int := match d with | .lst l => .ok l.length | .tup l => .ok l.length | .str x => .ok x.length | _ => .stuck
section
variable {K : PySem.W.Frag} {B H : Hp} {Q : VK} {v : V} {d : D} {σ : L2.St} {g : TGs}
theorem Post.lenD {β : Type} {k : Int → Res β} {P : β → Prop} {R : Err → Prop} (h : Post ((Y.lenD d).bind k) P R) (hs : ∀ x, d ≠ .str x) : ∃ ds : List D, (d = .lst ds ∨ d = .tup ds) ∧ Post (k ds.length) P R := by
  cases d with
  | lst l => exact ⟨l, .inl rfl, h⟩
  | tup l => exact ⟨l, .inr rfl, h⟩
  | str x => exact absurd rfl (hs x)
  | _ => exact h.elim
theorem h_tupG {n : Nat} {p : Addr} {xs : List V} {N : L2.St → Hp → Prop} (s : SqT K H p xs) (hl : xs.length = n) (h : g xs σ H N) : gTup K n g (.ref p) σ H N := ⟨p, xs, rfl, s, hl, h⟩
theorem h_gcons {t : TG} {u : TGs} {x : V} {xs : List V} {N : L2.St → Hp → Prop} (h : t x σ H fun σ' H' => u xs σ' H' N) : gCons t u (x :: xs) σ H N := ⟨x, xs, rfl, h⟩
theorem h_gnil {N : L2.St → Hp → Prop} (h : N σ H) : gNil [] σ H N := ⟨rfl, h⟩
end

section
variable {K : PySem.W.Frag} {B H : Hp} {Q : VK} {p : Addr} {xs : List V} {d1 d2 d3 d4 d5 : D}
theorem h_lenTl {l : List D} (s : SqT K H p xs) (r : RepL K B xs (l.map enc)) (h : Q (.int l.length) H) : rLenY K [V.ref p] H Q := by
  refine ⟨p, xs, rfl, .inr s, ?_⟩
  rw [show xs.length = l.length from by rw [r.length, List.length_map]]
  exact h
theorem tup2 {x y : V} (hl : xs.length = 2) (h0 : atI xs 0 = some x) (h1 : atI xs 1 = some y) : xs = [x, y] := by
  match xs, hl with
  | [a, b], _ =>
    have e0 : a = x := Option.some.inj h0
    have e1 : b = y := Option.some.inj h1
    rw [e0, e1]
theorem tup3 {x y z : V} (hl : xs.length = 3) (h0 : atI xs 0 = some x) (h1 : atI xs 1 = some y) (h2 : atI xs 2 = some z) : xs = [x, y, z] := by
  match xs, hl with
  | [a, b, c], _ =>
    have e0 : a = x := Option.some.inj h0
    have e1 : b = y := Option.some.inj h1
    have e2 : c = z := Option.some.inj h2
    rw [e0, e1, e2]
theorem tup4 {x y z u : V} (hl : xs.length = 4) (h0 : atI xs 0 = some x) (h1 : atI xs 1 = some y) (h2 : atI xs 2 = some z) (h3 : atI xs 3 = some u) : xs = [x, y, z, u] := by
  match xs, hl with
  | [a, b, c, d], _ =>
    have e0 : a = x := Option.some.inj h0
    have e1 : b = y := Option.some.inj h1
    have e2 : c = z := Option.some.inj h2
    have e3 : d = u := Option.some.inj h3
    rw [e0, e1, e2, e3]
theorem RepL.open2 (r : RepL K B xs [d1, d2]) : ∃ u1 u2, xs = [u1, u2] ∧ Rep K B u1 d1 ∧ Rep K B u2 d2 := by
  cases r with | cons h1 r => cases r with | cons h2 r => cases r; exact ⟨_, _, rfl, h1, h2⟩
theorem RepL.open3 (r : RepL K B xs [d1, d2, d3]) : ∃ u1 u2 u3, xs = [u1, u2, u3] ∧ Rep K B u1 d1 ∧ Rep K B u2 d2 ∧ Rep K B u3 d3 := by
  cases r with | cons h1 r => cases r with | cons h2 r => cases r with | cons h3 r => cases r; exact ⟨_, _, _, rfl, h1, h2, h3⟩
theorem RepL.open4 (r : RepL K B xs [d1, d2, d3, d4]) : ∃ u1 u2 u3 u4, xs = [u1, u2, u3, u4] ∧ Rep K B u1 d1 ∧ Rep K B u2 d2 ∧ Rep K B u3 d3 ∧ Rep K B u4 d4 := by
  cases r with | cons h1 r => cases r with | cons h2 r => cases r with | cons h3 r => cases r with | cons h4 r => cases r; exact ⟨_, _, _, _, rfl, h1, h2, h3, h4⟩
end
/-! ### defs with defaults -/
structure FunV (K : PySem.W.Frag) (x qual : Str) (st : Stmt) (dv : List Value) (f : Addr) (fd : FuncData) : Prop where
  ex : ∃ (oc : Value) (od : Option Addr) (T : Addr) (o : Obj) (n : Nat) (kV doc pm : Value) (an : Option Addr) (cdv ct : Value) (osl : Array (Option Value)),
    fd = PySem.W.fnOf x qual (defArgs st) (defBody st) (defScope st) (.ref T) kV doc pm an cdv ct ∧ K.lookup f = some ⟨oc, od, .func fd, osl⟩ ∧ PySem.W.codeIn K cdv qual = true ∧ K.lookup T = some o ∧ o.data = .seq dv.toArray n
  kp : PySem.W.keepIn K (.ref f) = true
section
variable {P : Program} {w : World} {K : PySem.W.Frag} {mg : Str → Option Value} {base : Heap} {x qual : Str} {st : Stmt} {dv : List Value} {f : Addr} {fd : FuncData} {ps ks : List Str}
theorem funV_mk {oc : Value} {od an oT : Option Addr} {osl sT : Array (Option Value)} {kV doc pm cdv ct cT : Value} {T : Addr} {n : Nat} (l : K.lookup f = some ⟨oc, od, .func (PySem.W.fnOf x qual (defArgs st) (defBody st) (defScope st) (.ref T) kV doc pm an cdv ct), osl⟩)
    (c : PySem.W.codeIn K cdv qual = true) (k : PySem.W.keepIn K (.ref f) = true) (lT : K.lookup T = some ⟨cT, oT, .seq dv.toArray n, sT⟩) : FunV K x qual st dv f (PySem.W.fnOf x qual (defArgs st) (defBody st) (defScope st) (.ref T) kV doc pm an cdv ct) :=
  ⟨⟨oc, od, T, _, n, kV, doc, pm, an, cdv, ct, osl, rfl, l, c, lT, rfl⟩, k⟩
theorem FunV.okX {N : List Str} {k : Nat} {sp : Sp} (F : FunV K x qual st dv f fd) (S : FnScope N ps (defScope st)) (len : ∀ vs H Q E, sp vs H Q E → vs.length = ps.length)
    (hbody : ∀ (cdv : Value) (A : Around) (outer : List Env) (s : Shared) (H : Hp) (vs : List V) (Q : VK) (E : XK), Room k (A.deeper (envOfC qual (defScope st) s.heap.objs.size f cdv)) → sp vs H Q E →
      ∃ t, PSs (cxOf (L2.CX P w) P w K mg base N qual (defScope st) f cdv A outer s H E) (defBody st) t ∧ t { nx := fun _ H' => Q .non H', rt := Q } (start N vs) H) : FnOk P w K mg base (L2.CX P w) (k + 1) f fd ps sp := by
  obtain ⟨oc, od, T, o, n, kV, doc, pm, an, cdv, ct, osl, rfl, lk, hcd, _, _⟩ := F.ex
  exact fn_of lk hcd S len fun A outer s H vs Q E hr hsp => hbody cdv A outer s H vs Q E hr hsp
theorem FunV.ok {N : List Str} {k : Nat} {sp : Sp} (F : FunV K x qual st dv f fd) (S : FnScope N ps (defScope st)) (len : ∀ vs H Q E, sp vs H Q E → vs.length = ps.length)
    (hbody : ∀ (cdv : Value) (A : Around) (outer : List Env) (s : Shared) (H : Hp) (vs : List V) (Q : VK) (E : XK), Room k (A.deeper (envOfC qual (defScope st) s.heap.objs.size f cdv)) → sp vs H Q E →
      ∃ t, PSs (cxOf CX0 P w K mg base N qual (defScope st) f cdv A outer s H E).nox (defBody st) t ∧ t { nx := fun _ H' => Q .non H', rt := Q } (start N vs) H) : FnOk P w K mg base CX0 (k + 1) f fd ps sp := by
  obtain ⟨oc, od, T, o, n, kV, doc, pm, an, cdv, ct, osl, rfl, lk, hcd, _, _⟩ := F.ex
  refine fn_of lk hcd S len fun A outer s H vs Q E hr hsp => ?_
  obtain ⟨t, h, q⟩ := hbody cdv A outer s H vs Q E hr hsp
  exact ⟨t, h.nox, q⟩
/-- n values are written, the defaults behind the first j fill up -/
theorem FunV.binds (F : FunV K x qual st dv f fd) (n j : Nat) (hn : n + (dv.length - j) = ps.length)
    (h : ∀ (T : Addr) (kV doc pm : Value) (an : Option Addr) (cdv ct : Value) (us : List Value), us.length = n →
      ∃ k, bindArgs (PySem.W.fnOf x qual (defArgs st) (defBody st) (defScope st) (.ref T) kV doc pm an cdv ct) ⟨us, []⟩ = seqItems? (.ref T) >>= k ∧ k (some dv.toArray) = pure (ps.zip (us ++ dv.drop j))) : Binds K fd ps (dv.drop j) := by
  obtain ⟨oc, od, T, o, m, kV, doc, pm, an, cdv, ct, osl, rfl, lk, hcd, lT, oT⟩ := F.ex
  refine fun s us X hlen => ?_
  have l2 : us.length = n := by
    rw [List.length_append, List.length_drop] at hlen
    omega
  obtain ⟨k, e1, e2⟩ := h T kV doc pm an cdv ct us l2
  refine BindsTo.of_looks fun M => ?_
  rw [e1]
  exact looks_items X lT oT (.of_pure e2)
theorem FunV.kb {g : List Value → List Value → List Value} {gV : List V → List V → List V} (F : FunV K x qual st dv f fd)
    (h : ∀ (T : Addr) (kV doc pm : Value) (an : Option Addr) (cdv ct : Value) (us ws : List Value), (g us ws).length = ps.length → ∃ k, bindArgs (PySem.W.fnOf x qual (defArgs st) (defBody st) (defScope st) (.ref T) kV doc pm an cdv ct) ⟨us, ks.zip ws⟩ = seqItems? (.ref T) >>= k ∧ k (some dv.toArray) = pure (ps.zip (g us ws)))
    (r : ∀ {vs : List V} {us : List Value} {zs : List V} {ws : List Value}, Vals vs us → Vals zs ws → Vals (gV vs zs) (g us ws)) : KBinds K fd ps ks g gV := by
  obtain ⟨oc, od, T, o, m, kV, doc, pm, an, cdv, ct, osl, rfl, lk, hcd, lT, oT⟩ := F.ex
  refine ⟨fun s us ws X hl => ?_, r⟩
  obtain ⟨k, e1, e2⟩ := h T kV doc pm an cdv ct us ws hl
  refine BindsTo.of_looks fun M => ?_
  rw [e1]
  exact looks_items X lT oT (.of_pure e2)
end
/-! ### // by what may be negative -/
def CDivZ (_ j : Int) : Prop := j ≠ 0 ∧ j.natAbs.log2 < 9000
instance {i j : Int} : Decidable (CDivZ i j) := inferInstanceAs (Decidable (_ ∧ _))
theorem op_fdivZ {X : Cx} : OpR X (binaryOp .FloorDiv) (rI CDivZ fun i j => .int (Int.fdiv i j)) := opI fun i j _ _ _ _ _ hc q => floordiv_int hc.1 q (.inl (PyProof.noPylong_of_log2 hc.2))
/-! ### x is None -/
def isNonD : D → Bool | .non => true | _ => false
def rIsN : V → V → Hp → VK → Prop := fun x y H Q => y = .non ∧ Q (.bl (decide (x = .non))) H
def rNotN : V → V → Hp → VK → Prop := fun x y H Q => y = .non ∧ Q (.bl (!decide (x = .non))) H
theorem op_isNn {X : Cx} : OpR X (compareOp .Is) rIsN := op_isN
theorem op_notNn {X : Cx} : OpR X (compareOp .IsNot) rNotN := op_notN
section
variable {K : PySem.W.Frag} {B H : Hp} {Q : VK} {v : V} {d : D}
theorem Rep.isNon (r : Rep K B v d) : decide (v = .non) = isNonD d := by
  cases r <;> rfl
theorem h_isN (r : Rep K B v d) (h : Q (.bl (isNonD d)) H) : rIsN v .non H Q := ⟨rfl, by rw [r.isNon]; exact h⟩
theorem h_notN (r : Rep K B v d) (h : Q (.bl (!isNonD d)) H) : rNotN v .non H Q := ⟨rfl, by rw [r.isNon]; exact h⟩
end
end Y

set_option Elab.async false
set_option linter.all false
set_option maxRecDepth 100000
set_option maxHeartbeats 4000000
namespace A
open PySem PySem.Spec PyProof.Rows L2 Y
open Y.Enc (enc)
abbrev top (i : Nat) : Stmt := PySem.Challenge.pw_lanescroll_k02_sums_and_products.main.body.getD i (.Pass ⟨0, 0, 0, 0⟩)
/-! ### divisor -/
def m_divisor (a_one : Int) (a_other : Int) : Res Int :=
  lt ((absI a_one) : Int) fun x1 => lt ((absI a_other) : Int) fun x2 => (whileR (x2.natAbs + 1) ((x1, x2) : Int × Int) (fun (a12 : Int × Int) => (if (decide (0 < a12.2)) = true then guardR (0 < a12.2) <| lt ((a12.1 % a12.2) : Int) fun x16 => .ok (.nx (a12.2, x16)) else .ok (.bk (a12.1, a12.2))))).bind (afterR fun a17 => .ok a17.1)
def sp_divisor (K : PySem.W.Frag) : Sp := fun vs H Q _ => ∃ (B : Hp) (a_one : Int) (a_other : Int), Ex B H ∧ vs = [.int a_one, .int a_other] ∧ Post (m_divisor a_one a_other) (fun r => Ret K [] B H (enc r) Q) (fun _ => False)
abbrev s_divisor : Stmt := top 4
theorem sc_divisor : FnScope ["one", "other"] ["one", "other"] (defScope s_divisor) := ⟨rfl, rfl, rfl, by decide +kernel, rfl, by decide +kernel, by decide +kernel⟩
/-! ### is_number -/
def m_is_number (a_thing : D) : Res Bool :=
  (if (isA "int" a_thing) = true then .ok (!(isA "bool" a_thing)) else .ok false)
def sp_is_number (K : PySem.W.Frag) : Sp := fun vs H Q _ => ∃ (B : Hp) (v_thing : V) (a_thing : D), Ex B H ∧ vs = [v_thing] ∧ Rep K B v_thing (enc a_thing) ∧ Post (m_is_number a_thing) (fun r => Ret K [] B H (enc r) Q) (fun _ => False)
abbrev s_is_number : Stmt := top 5
theorem sc_is_number : FnScope ["thing"] ["thing"] (defScope s_is_number) := ⟨rfl, rfl, rfl, by decide +kernel, rfl, by decide +kernel, by decide +kernel⟩
/-! ### fraction -/
def m_fraction (a_top : D) (a_bottom : D) : Res (Tp2 Int Int) :=
  ((m_is_number a_top).noErr).bind fun x1 => (if x1 = true then ((m_is_number a_bottom).noErr).bind fun x7 => (if x7 = true then guardR (okEq a_bottom (enc (0 : Int))) <| (if (eqD a_bottom (enc (0 : Int))) = true then .err ⟨"NoFraction", []⟩ else (asI a_top).bind fun i13 => (asI a_bottom).bind fun i16 => ((m_divisor i13 i16).noErr).bind fun x19 => ((if (decide (i16 < 0)) = true then lt ((-x19) : Int) fun x28 => .ok x28 else .ok x19) : Res (Int)).bind fun a29 => guardR (CDivZ i13 a29) <| guardR (CDivZ i16 a29) <| .ok (⟨(Int.fdiv i13 a29), (Int.fdiv i16 a29)⟩ : (Tp2 Int Int))) else .err ⟨"NoFraction", []⟩) else .err ⟨"NoFraction", []⟩)
def sp_fraction (K : PySem.W.Frag) (mg : Str → Option Value) : Sp := fun vs H Q E => ∃ (B : Hp) (v_top : V) (a_top : D) (v_bottom : V) (a_bottom : D), Ex B H ∧ vs = [v_top, v_bottom] ∧ Rep K B v_top (enc a_top) ∧ Rep K B v_bottom (enc a_bottom) ∧ Post (m_fraction a_top a_bottom) (fun r => Ret K [] B H (enc r) Q) (fun e => Rai mg [] B H e E)
abbrev s_fraction : Stmt := top 6
theorem sc_fraction : FnScope ["top", "bottom", "share"] ["top", "bottom"] (defScope s_fraction) := ⟨rfl, rfl, rfl, by decide +kernel, rfl, by decide +kernel, by decide +kernel⟩
/-! ### plus -/
def m_plus (a_one : (Tp2 Int Int)) (a_other : (Tp2 Int Int)) : Res (Tp2 Int Int) :=
  guardR (CMulW a_one.a a_other.b) <| guardR (CMulW a_other.a a_one.b) <| guardR (CMulW a_one.b a_other.b) <| (m_fraction (enc (((a_one.a * a_other.b) + (a_other.a * a_one.b)) : Int)) (enc ((a_one.b * a_other.b) : Int))).bind fun x37 => .ok x37
def sp_plus (K : PySem.W.Frag) (mg : Str → Option Value) : Sp := fun vs H Q E => ∃ (B : Hp) (v_one : V) (a_one : (Tp2 Int Int)) (v_other : V) (a_other : (Tp2 Int Int)), Ex B H ∧ vs = [v_one, v_other] ∧ Rep K B v_one (enc a_one) ∧ Rep K B v_other (enc a_other) ∧ Post (m_plus a_one a_other) (fun r => Ret K [] B H (enc r) Q) (fun e => Rai mg [] B H e E)
abbrev s_plus : Stmt := top 7
theorem sc_plus : FnScope ["one", "other"] ["one", "other"] (defScope s_plus) := ⟨rfl, rfl, rfl, by decide +kernel, rfl, by decide +kernel, by decide +kernel⟩
/-! ### minus -/
def m_minus (a_one : (Tp2 Int Int)) (a_other : (Tp2 Int Int)) : Res (Tp2 Int Int) :=
  guardR (CMulW a_one.a a_other.b) <| guardR (CMulW a_other.a a_one.b) <| guardR (CMulW a_one.b a_other.b) <| (m_fraction (enc (((a_one.a * a_other.b) - (a_other.a * a_one.b)) : Int)) (enc ((a_one.b * a_other.b) : Int))).bind fun x37 => .ok x37
def sp_minus (K : PySem.W.Frag) (mg : Str → Option Value) : Sp := fun vs H Q E => ∃ (B : Hp) (v_one : V) (a_one : (Tp2 Int Int)) (v_other : V) (a_other : (Tp2 Int Int)), Ex B H ∧ vs = [v_one, v_other] ∧ Rep K B v_one (enc a_one) ∧ Rep K B v_other (enc a_other) ∧ Post (m_minus a_one a_other) (fun r => Ret K [] B H (enc r) Q) (fun e => Rai mg [] B H e E)
abbrev s_minus : Stmt := top 8
theorem sc_minus : FnScope ["one", "other"] ["one", "other"] (defScope s_minus) := ⟨rfl, rfl, rfl, by decide +kernel, rfl, by decide +kernel, by decide +kernel⟩
/-! ### times -/
def m_times (a_one : (Tp2 Int Int)) (a_other : (Tp2 Int Int)) : Res (Tp2 Int Int) :=
  guardR (CMulW a_one.a a_other.a) <| guardR (CMulW a_one.b a_other.b) <| (m_fraction (enc ((a_one.a * a_other.a) : Int)) (enc ((a_one.b * a_other.b) : Int))).bind fun x25 => .ok x25
def sp_times (K : PySem.W.Frag) (mg : Str → Option Value) : Sp := fun vs H Q E => ∃ (B : Hp) (v_one : V) (a_one : (Tp2 Int Int)) (v_other : V) (a_other : (Tp2 Int Int)), Ex B H ∧ vs = [v_one, v_other] ∧ Rep K B v_one (enc a_one) ∧ Rep K B v_other (enc a_other) ∧ Post (m_times a_one a_other) (fun r => Ret K [] B H (enc r) Q) (fun e => Rai mg [] B H e E)
abbrev s_times : Stmt := top 9
theorem sc_times : FnScope ["one", "other"] ["one", "other"] (defScope s_times) := ⟨rfl, rfl, rfl, by decide +kernel, rfl, by decide +kernel, by decide +kernel⟩
/-! ### shared -/
def m_shared (a_one : (Tp2 Int Int)) (a_other : (Tp2 Int Int)) : Res (Tp2 Int Int) :=
  (if (decide (a_other.a = 0)) = true then .err ⟨"NoFraction", []⟩ else guardR (CMulW a_one.a a_other.b) <| guardR (CMulW a_one.b a_other.a) <| (m_fraction (enc ((a_one.a * a_other.b) : Int)) (enc ((a_one.b * a_other.a) : Int))).bind fun x31 => .ok x31)
def sp_shared (K : PySem.W.Frag) (mg : Str → Option Value) : Sp := fun vs H Q E => ∃ (B : Hp) (v_one : V) (a_one : (Tp2 Int Int)) (v_other : V) (a_other : (Tp2 Int Int)), Ex B H ∧ vs = [v_one, v_other] ∧ Rep K B v_one (enc a_one) ∧ Rep K B v_other (enc a_other) ∧ Post (m_shared a_one a_other) (fun r => Ret K [] B H (enc r) Q) (fun e => Rai mg [] B H e E)
abbrev s_shared : Stmt := top 10
theorem sc_shared : FnScope ["one", "other"] ["one", "other"] (defScope s_shared) := ⟨rfl, rfl, rfl, by decide +kernel, rfl, by decide +kernel, by decide +kernel⟩
/-! ### _law_cell_at -/
def l_cell_at (a_script : (List Int)) (a_k : Int) : Res Int :=
  (if (decide (a_k < (a_script.length : Int))) = true then (ixR a_script a_k).bind fun x9 => .ok x9 else .ok 0)
def sp__law_cell_at (K : PySem.W.Frag) : Sp := fun vs H Q _ => ∃ (B : Hp) (v_script : V) (a_script : (List Int)) (a_k : Int), Ex B H ∧ vs = [v_script, .int a_k] ∧ Bor K B H [] v_script (a_script.map enc) ∧ Post (l_cell_at a_script a_k) (fun r => Ret K [] B H (enc r) Q) (fun _ => False)
abbrev s__law_cell_at : Stmt := top 12
theorem sc__law_cell_at : FnScope ["_law_script", "_law_k"] ["_law_script", "_law_k"] (defScope s__law_cell_at) := ⟨rfl, rfl, rfl, by decide +kernel, rfl, by decide +kernel, by decide +kernel⟩
/-! ### _law_digit -/
def l_digit (a_state : (List Int)) (a_base : Int) : Res (Int × (List Int)) :=
  ((if (decide ((a_state.length : Int) = 1)) = true then (ixR a_state 0).bind fun x12 => guardR (a_state.length + ([(x12 % 2147483647), 0] : List Int).length ≤ 1000000) <| .ok (a_state ++ ([(x12 % 2147483647), 0] : List Int)) else .ok a_state) : Res ((List Int))).bind fun a26 => (ixR a26 0).bind fun x34 => (if (decide (a_base ≤ x34)) = true then (ixR a26 0).bind fun x42 => guardR (0 < a_base) <| lt ((x42 % a_base) : Int) fun x46 => (ixR a26 0).bind fun x51 => guardR (CDivW x51 a_base) <| (setR a26 0 (x51 / a_base)).bind fun x55 => .ok (x46, x55) else (ixR a26 2).bind fun x64 => (setR a26 2 (x64 + 1)).bind fun x68 => (ixR x68 1).bind fun x77 => (ixR x68 2).bind fun x85 => lt (((((x77 + (7919 * x85)) + 1) * 48271) % 2147483647) : Int) fun x89 => guardR (CMulW x89 ((x89 / 1009) + 69621)) <| lt (((x89 * ((x89 / 1009) + 69621)) % 2147483647) : Int) fun x90 => guardR (CMulW x90 ((x90 / 2003) + 40692)) <| guardR (0 < a_base) <| .ok ((((x90 * ((x90 / 2003) + 40692)) % 2147483399) % a_base), x68))
def sp__law_digit (K : PySem.W.Frag) : Sp := fun vs H Q _ => ∃ (B : Hp) (p_state : Addr) (a_state : (List Int)) (a_base : Int), Ex B H ∧ vs = [.ref p_state, .int a_base] ∧ Mu K B H p_state (a_state.map enc) ∧ Post (l_digit a_state a_base) (fun r => RetM K p_state B H (enc r.1) (r.2.map enc) Q) (fun _ => False)
abbrev s__law_digit : Stmt := top 13
theorem sc__law_digit : FnScope ["_law_state", "_law_base", "_law_found", "_law_number"] ["_law_state", "_law_base"] (defScope s__law_digit) := ⟨rfl, rfl, rfl, by decide +kernel, rfl, by decide +kernel, by decide +kernel⟩
/-! ### _law_great -/
def l_great (a_state : (List Int)) (a_few : Int) : Res (Int × (List Int)) :=
  (l_digit a_state 2).bind fun x6 => (ixR ([2, a_few] : List Int) x6.1).bind fun x16 => guardR (-(2 ^ 62) ≤ (x16 : Int) ∧ (x16 : Int) < 2 ^ 62) <| (forR (rngI 0 x16) ((0, x6.2) : Int × (List Int)) (fun x29 (a28 : Int × (List Int)) => (l_digit a28.2 (100000 + 3)).bind fun x36 => lt (((a28.1 * 100000) + x36.1) : Int) fun x42 => .ok (.nx (x42, x36.2)))).bind (afterR fun a43 => .ok (a43.1, a43.2))
def sp__law_great (K : PySem.W.Frag) : Sp := fun vs H Q _ => ∃ (B : Hp) (p_state : Addr) (a_state : (List Int)) (a_few : Int), Ex B H ∧ vs = [.ref p_state, .int a_few] ∧ Mu K B H p_state (a_state.map enc) ∧ Post (l_great a_state a_few) (fun r => RetM K p_state B H (enc r.1) (r.2.map enc) Q) (fun _ => False)
abbrev s__law_great : Stmt := top 14
theorem sc__law_great : FnScope ["_law_state", "_law_few", "_law_number", "_law_k"] ["_law_state", "_law_few"] (defScope s__law_great) := ⟨rfl, rfl, rfl, by decide +kernel, rfl, by decide +kernel, by decide +kernel⟩
/-! ### _law_shared -/
def l_shared (a_left : Int) (a_right : Int) : Res Int :=
  lt ((absI a_left) : Int) fun x1 => lt ((absI a_right) : Int) fun x2 => (whileR (x2.natAbs + 1) ((x1, x2) : Int × Int) (fun (a12 : Int × Int) => (if (decide (0 < a12.2)) = true then guardR (0 < a12.2) <| lt ((a12.1 % a12.2) : Int) fun x16 => .ok (.nx (a12.2, x16)) else .ok (.bk (a12.1, a12.2))))).bind (afterR fun a17 => .ok a17.1)
def sp__law_shared (K : PySem.W.Frag) : Sp := fun vs H Q _ => ∃ (B : Hp) (a_left : Int) (a_right : Int), Ex B H ∧ vs = [.int a_left, .int a_right] ∧ Post (l_shared a_left a_right) (fun r => Ret K [] B H (enc r) Q) (fun _ => False)
abbrev s__law_shared : Stmt := top 15
theorem sc__law_shared : FnScope ["_law_left", "_law_right"] ["_law_left", "_law_right"] (defScope s__law_shared) := ⟨rfl, rfl, rfl, by decide +kernel, rfl, by decide +kernel, by decide +kernel⟩
/-! ### _law_lowest -/
def l_lowest (a_top : Int) (a_bottom : Int) : Res (Tp2 Int Int) :=
  (l_shared a_top a_bottom).bind fun x1 => ((if (decide (a_bottom < 0)) = true then lt ((0 - x1) : Int) fun x10 => .ok x10 else .ok x1) : Res (Int)).bind fun a11 => guardR (CDivZ a_top a11) <| guardR (CDivZ a_bottom a11) <| .ok (⟨(Int.fdiv a_top a11), (Int.fdiv a_bottom a11)⟩ : (Tp2 Int Int))
def sp__law_lowest (K : PySem.W.Frag) : Sp := fun vs H Q _ => ∃ (B : Hp) (a_top : Int) (a_bottom : Int), Ex B H ∧ vs = [.int a_top, .int a_bottom] ∧ Post (l_lowest a_top a_bottom) (fun r => Ret K [] B H (enc r) Q) (fun _ => False)
abbrev s__law_lowest : Stmt := top 16
theorem sc__law_lowest : FnScope ["_law_top", "_law_bottom", "_law_share"] ["_law_top", "_law_bottom"] (defScope s__law_lowest) := ⟨rfl, rfl, rfl, by decide +kernel, rfl, by decide +kernel, by decide +kernel⟩
/-! ### _law_drawn -/
def l_drawn (a_state : (List Int)) : Res ((Tp2 Int Int) × (List Int)) :=
  (l_digit a_state 3).bind fun x6 => (ixR ([1, (-1), 0] : List Int) x6.1).bind fun x16 => (l_great x6.2 4).bind fun x20 => guardR (CMulW x16 x20.1) <| lt ((x16 * x20.1) : Int) fun x26 => (l_digit x20.2 9).bind fun x27 => (l_digit x27.2 3).bind fun x38 => (ixR ([x26, x27.1] : List Int) (x38.1 / 2)).bind fun x48 => (l_great x38.2 4).bind fun x52 => (l_lowest x48 (1 + x52.1)).bind fun x58 => .ok (x58, x52.2)
def sp__law_drawn (K : PySem.W.Frag) : Sp := fun vs H Q _ => ∃ (B : Hp) (p_state : Addr) (a_state : (List Int)), Ex B H ∧ vs = [.ref p_state] ∧ Mu K B H p_state (a_state.map enc) ∧ Post (l_drawn a_state) (fun r => RetM K p_state B H (enc r.1) (r.2.map enc) Q) (fun _ => False)
abbrev s__law_drawn : Stmt := top 17
theorem sc__law_drawn : FnScope ["_law_state", "_law_top"] ["_law_state"] (defScope s__law_drawn) := ⟨rfl, rfl, rfl, by decide +kernel, rfl, by decide +kernel, by decide +kernel⟩
/-! ### _law_second -/
def l_second (a_state : (List Int)) (a_left : (Tp2 Int Int)) : Res ((Tp2 Int Int) × (List Int)) :=
  (l_drawn a_state).bind fun x1 => (l_digit x1.2 8).bind fun x7 => (if (decide (x7.1 = 1)) = true then .ok (a_left, x7.2) else (if (decide (x7.1 = 2)) = true then .ok ((⟨(0 - a_left.a), a_left.b⟩ : (Tp2 Int Int)), x7.2) else ((if (decide (x7.1 = 3)) = true then .ok (!decide (a_left.a = 0)) else .ok false) : Res Bool).bind fun b39 => (if b39 = true then (l_lowest a_left.b a_left.a).bind fun x55 => .ok (x55, x7.2) else (if (decide (x7.1 = 4)) = true then (l_lowest x1.1.a a_left.b).bind fun x73 => .ok (x73, x7.2) else .ok (x1.1, x7.2)))))
def sp__law_second (K : PySem.W.Frag) : Sp := fun vs H Q _ => ∃ (B : Hp) (p_state : Addr) (a_state : (List Int)) (v_left : V) (a_left : (Tp2 Int Int)), Ex B H ∧ vs = [.ref p_state, v_left] ∧ Mu K B H p_state (a_state.map enc) ∧ Rep K B v_left (enc a_left) ∧ Post (l_second a_state a_left) (fun r => RetM K p_state B H (enc r.1) (r.2.map enc) Q) (fun _ => False)
abbrev s__law_second : Stmt := top 18
theorem sc__law_second : FnScope ["_law_state", "_law_left", "_law_right", "_law_way"] ["_law_state", "_law_left"] (defScope s__law_second) := ⟨rfl, rfl, rfl, by decide +kernel, rfl, by decide +kernel, by decide +kernel⟩
/-! ### _law_alike -/
def l_alike (a_found : D) (a_top : Int) (a_bottom : Int) : Res Bool :=
  (if (isA "tuple" a_found) = true then (asT a_found).bind fun l1 => (if (!decide ((l1.length : Int) = 2)) = true then .ok false else (asT a_found).bind fun l9 => (forR (l9) (() : Unit) (fun x23 (a22 : Unit) => (if (isA "int" x23) = true then (if (isA "bool" x23) = true then .ok (.rt false) else .ok (.nx ())) else .ok (.rt false)))).bind (afterR fun a30 => (l_lowest a_top a_bottom).bind fun x35 => guardR (okEq a_found (enc x35)) <| .ok (eqD a_found (enc x35)))) else .ok false)
def sp__law_alike (K : PySem.W.Frag) : Sp := fun vs H Q _ => ∃ (B : Hp) (v_found : V) (a_found : D) (a_top : Int) (a_bottom : Int), Ex B H ∧ vs = [v_found, .int a_top, .int a_bottom] ∧ Rep K B v_found (enc a_found) ∧ Post (l_alike a_found a_top a_bottom) (fun r => Ret K [] B H (enc r) Q) (fun _ => False)
abbrev s__law_alike : Stmt := top 19
theorem sc__law_alike : FnScope ["_law_found", "_law_top", "_law_bottom", "_law_number"] ["_law_found", "_law_top", "_law_bottom"] (defScope s__law_alike) := ⟨rfl, rfl, rfl, by decide +kernel, rfl, by decide +kernel, by decide +kernel⟩
/-! ### _law_share_right -/
def l_share_right (a_left : (Tp2 Int Int)) (a_right : (Tp2 Int Int)) : Res Bool :=
  (tryR ((m_shared a_left a_right).bind fun x7 => .ok (.nx ((some x7), false)) : Res (Fl ((Option (Tp2 Int Int)) × Bool) (Bool))) (fun ⟨ec, _⟩ => guardR (ec ∈ (["NoFraction"] : List Str)) <| .ok (.nx (none, true)))).bind (afterR fun a19 => (if (decide (a_right.a = 0)) = true then (if a19.2 = true then .ok (isNonD (enc a19.1)) else .ok false) else (if (!a19.2) = true then guardR (CMulW a_left.a a_right.b) <| guardR (CMulW a_left.b a_right.a) <| (l_alike (enc a19.1) (a_left.a * a_right.b) (a_left.b * a_right.a)).bind fun x56 => .ok x56 else .ok false)))
def sp__law_share_right (K : PySem.W.Frag) : Sp := fun vs H Q _ => ∃ (B : Hp) (v_left : V) (a_left : (Tp2 Int Int)) (v_right : V) (a_right : (Tp2 Int Int)), Ex B H ∧ vs = [v_left, v_right] ∧ Rep K B v_left (enc a_left) ∧ Rep K B v_right (enc a_right) ∧ Post (l_share_right a_left a_right) (fun r => Ret K [] B H (enc r) Q) (fun _ => False)
abbrev s__law_share_right : Stmt := top 20
theorem sc__law_share_right : FnScope ["_law_left", "_law_right", "_law_refused", "_law_found", "e"] ["_law_left", "_law_right"] (defScope s__law_share_right) := ⟨rfl, rfl, rfl, by decide +kernel, rfl, by decide +kernel, by decide +kernel⟩
/-! ### _law_all_right -/
def l_all_right (a_left : (Tp2 Int Int)) (a_right : (Tp2 Int Int)) : Res Bool :=
  guardR (CMulW a_left.b a_right.b) <| lt ((a_left.b * a_right.b) : Int) fun x13 => ((m_plus a_left a_right).noErr).bind fun x14 => guardR (CMulW a_left.a a_right.b) <| guardR (CMulW a_right.a a_left.b) <| (l_alike (enc x14) ((a_left.a * a_right.b) + (a_right.a * a_left.b)) x13).bind fun x44 => (if x44 = true then ((m_minus a_left a_right).noErr).bind fun x50 => guardR (CMulW a_left.a a_right.b) <| guardR (CMulW a_right.a a_left.b) <| (l_alike (enc x50) ((a_left.a * a_right.b) - (a_right.a * a_left.b)) x13).bind fun x80 => (if x80 = true then ((m_times a_left a_right).noErr).bind fun x86 => guardR (CMulW a_left.a a_right.a) <| (l_alike (enc x86) (a_left.a * a_right.a) x13).bind fun x104 => (if x104 = true then (l_share_right a_left a_right).bind fun x110 => (if x110 = true then ((m_plus a_left a_right).noErr).bind fun x116 => ((m_minus x116 a_right).noErr).bind fun x122 => guardR (okEq (enc x122) (enc a_left)) <| (if (!(eqD (enc x122) (enc a_left))) = true then .ok false else (if (decide (a_right.a = 0)) = true then .ok true else ((m_times a_left a_right).noErr).bind fun x134 => ((m_shared x134 a_right).noErr).bind fun x140 => guardR (okEq (enc x140) (enc a_left)) <| .ok (eqD (enc x140) (enc a_left)))) else .ok false) else .ok false) else .ok false) else .ok false)
def sp__law_all_right (K : PySem.W.Frag) : Sp := fun vs H Q _ => ∃ (B : Hp) (v_left : V) (a_left : (Tp2 Int Int)) (v_right : V) (a_right : (Tp2 Int Int)), Ex B H ∧ vs = [v_left, v_right] ∧ Rep K B v_left (enc a_left) ∧ Rep K B v_right (enc a_right) ∧ Post (l_all_right a_left a_right) (fun r => Ret K [] B H (enc r) Q) (fun _ => False)
abbrev s__law_all_right : Stmt := top 21
theorem sc__law_all_right : FnScope ["_law_left", "_law_right", "_law_bottom"] ["_law_left", "_law_right"] (defScope s__law_all_right) := ⟨rfl, rfl, rfl, by decide +kernel, rfl, by decide +kernel, by decide +kernel⟩
/-! ### law -/
def m_law (a_script : (List Int)) : Res Bool :=
  (l_cell_at a_script 0).bind fun x1 => (l_drawn ([x1] : List Int)).bind fun x13 => (l_cell_at a_script 1).bind fun x19 => (l_second ([x19] : List Int) x13.1).bind fun x31 => ((m_fraction (enc (x13.1.a : Int)) (enc (x13.1.b : Int))).noErr).bind fun x49 => guardR (okEq (enc x49) (enc x13.1)) <| (if (!(eqD (enc x49) (enc x13.1))) = true then .ok false else ((m_minus x13.1 x31.1).noErr).bind fun x55 => ((m_minus x13.1 x31.1).noErr).bind fun x61 => guardR (okEq (enc x55) (enc x61)) <| (if (!(eqD (enc x55) (enc x61))) = true then .ok false else (l_cell_at a_script 2).bind fun x67 => (l_second ([x67] : List Int) x31.1).bind fun x79 => (l_all_right x13.1 x31.1).bind fun x85 => (if x85 = true then (l_all_right x31.1 x13.1).bind fun x91 => (if x91 = true then (l_all_right x79.1 x13.1).bind fun x97 => .ok x97 else .ok false) else .ok false)))
def sp_law (K : PySem.W.Frag) : Sp := fun vs H Q _ => ∃ (B : Hp) (v_script : V) (a_script : (List Int)), Ex B H ∧ vs = [v_script] ∧ Bor K B H [] v_script (a_script.map enc) ∧ Post (m_law a_script) (fun r => Ret K [] B H (enc r) Q) (fun _ => False)
abbrev s_law : Stmt := top 22
theorem sc_law : FnScope ["_law_script", "_law_left", "_law_right", "_law_third"] ["_law_script"] (defScope s_law) := ⟨rfl, rfl, rfl, by decide +kernel, rfl, by decide +kernel, by decide +kernel⟩
section
variable {Pr : Program} {wo : World} {K : PySem.W.Frag} {mg : Str → Option Value} {base : Heap}
theorem ok_divisor {f : Addr} {fd : FuncData}  (F : Fun K "divisor" "divisor" s_divisor f fd) (bI_abs : mg "abs" = none) : FnOk Pr wo K mg base CX0 1 f fd ["one", "other"] (sp_divisor K) := by
  refine F.ok sc_divisor (fun vs H Q E h => ?_) (fun cdv A outer s H0 vs Q E hr h => ?_)
  · obtain ⟨_, _, _, _, rfl, _⟩ := h; rfl
  · obtain ⟨B0, a_one, a_other, w, rfl, P⟩ := h
    have w0 := w
    have hu := hu_of hr
    have hu64 := hu64_of hr
    refine ⟨_, (pss_cons (ps_set (i := 0) sc_divisor.nd rfl (by first | exact Or.inl rfl | exact Or.inr rfl) (pe_callB cr_abs (by rfl) bI_abs PyProof.Rows.boot_abs (pa_cons (pv 0) pa_nil)))
      (pss_cons (ps_set (i := 1) sc_divisor.nd rfl (by first | exact Or.inl rfl | exact Or.inr rfl) (pe_callB cr_abs (by rfl) bI_abs PyProof.Rows.boot_abs (pa_cons (pv 1) pa_nil)))
      (pss_cons (ps_while PassesOwn.never (pt_cmpR op_gt (pv 1) pe_int (nomark _)) (pss_one (ps_par rfl sc_divisor.nd (i := 0) (j := 1) rfl rfl (by decide) rfl rfl (pa_cons (pv 1) (pa_cons (pe_op op_mod (pv 0) (pv 1)) pa_nil)) rfl)))
      (pss_one (ps_ret (pv 0)))))), ?_⟩
    unfold m_divisor at P
    have st := Stp.refl (W := []) w
    refine h_set ?_
    refine h_cb ?_
    refine h_cons ?_
    refine h_var rfl ?_
    refine h_nil ?_
    refine h_abs ?_
    replace P := P.lt
    generalize hx : (absI a_one) = x1 at P ⊢
    refine h_set ?_
    refine h_cb ?_
    refine h_cons ?_
    refine h_var rfl ?_
    refine h_nil ?_
    refine h_abs ?_
    replace P := P.lt
    generalize hx : (absI a_other) = x2 at P ⊢
    refine h_seq ?_
    have wj4 := w
    have sj3 := Stp.refl (W := []) w
    refine h_while P (fun (a : Int × Int) σ' H' => ∃ (B' : Hp), Stp [] B0 H0 B' H' ∧ σ' = [some (.int a.1), some (.int a.2)]) ⟨_, sj3, rfl⟩ ?_ ?_
    · rintro N5 C6 T7 a12 _ H14 ⟨B13, s15, rfl⟩ kn8 kk9 kr10 kb11 P
      replace st := st.go s15 go0
      replace w := s15.ok
      have sj3 := s15
      refine h_test ?_
      refine h_op ?_
      refine h_var rfl ?_
      refine h_c ?_
      refine h_I0 ?_
      refine h_bl ?_
      refine h_ite (fun c1 => ?_) (fun c1 => ?_)
      · replace P := P.iteT c1
        refine ⟨N5, kn8, ?_⟩
        refine h_par ?_
        refine h_cons ?_
        refine h_var rfl ?_
        refine h_cons ?_
        refine h_op ?_
        refine h_var rfl ?_
        refine h_var rfl ?_
        obtain ⟨gd, P⟩ := P.guard
        refine h_I gd ?_
        refine h_nil ?_
        refine h_two ?_
        replace P := P.lt
        generalize hx : (a12.1 % a12.2) = x16 at P ⊢
        refine h_nx ?_
        exact kk9 (a12.2, x16) _ _ ⟨_, sj3, rfl⟩ P.ok
      · replace P := P.iteF c1
        exact kb11 (a12.1, a12.2) _ _ ⟨_, sj3, rfl⟩ P.ok
    · rintro a17 _ H19 ⟨B18, s20, rfl⟩ P
      replace st := st.go s20 go0
      replace w := s20.ok
      refine h_nx ?_
      refine h_ret ?_
      refine h_var rfl ?_
      exact P.ok _ _ _ st (Rep.int _)
theorem ok_is_number {f : Addr} {fd : FuncData}  (F : Fun K "is_number" "is_number" s_is_number f fd) (bI_isinstance : mg "isinstance" = none) (bI_int : mg "int" = none) (bI_bool : mg "bool" = none) : FnOk Pr wo K mg base CX0 1 f fd ["thing"] (sp_is_number K) := by
  refine F.ok sc_is_number (fun vs H Q E h => ?_) (fun cdv A outer s H0 vs Q E hr h => ?_)
  · obtain ⟨_, _, _, _, rfl, _⟩ := h; rfl
  · obtain ⟨B0, v_thing, a_thing, w, rfl, r_thing, P⟩ := h
    have w0 := w
    have hu := hu_of hr
    have hu64 := hu64_of hr
    refine ⟨_, (pss_one (ps_ret (pe_and (pe_callB (r := rIsi K) call_isi (by rfl) bI_isinstance PyProof.Rows.boot_isinstance (pa_cons (pv 0) (pa_cons (pe_bltn (v := .ty "int") (by rfl) bI_int Y.boot_int rfl) pa_nil))) (pe_one (pe_not (pe_callB (r := rIsi K) call_isi (by rfl) bI_isinstance PyProof.Rows.boot_isinstance (pa_cons (pv 0) (pa_cons (pe_bltn (v := .ty "bool") (by rfl) bI_bool Y.boot_bool rfl) pa_nil)))))))), ?_⟩
    unfold m_is_number at P
    have st := Stp.refl (W := []) w
    refine h_ret ?_
    refine h_and ?_
    refine h_cb ?_
    refine h_cons ?_
    refine h_var rfl ?_
    refine h_cons ?_
    refine h_c ?_
    refine h_nil ?_
    refine isi (t := "int") w (r_thing.mono st.ex) ?_
    refine h_bl ?_
    refine h_ite (fun c1 => ?_) (fun c1 => ?_)
    · replace P := P.iteT c1
      refine h_not ?_
      refine h_cb ?_
      refine h_cons ?_
      refine h_var rfl ?_
      refine h_cons ?_
      refine h_c ?_
      refine h_nil ?_
      refine isi (t := "bool") w (r_thing.mono st.ex) ?_
      refine h_bl ?_
      exact P.ok _ _ _ st (Rep.bl _)
    · replace P := P.iteF c1
      exact P.ok _ _ _ st (Rep.bl _)
theorem ok_fraction {f : Addr} {fd : FuncData} {tk_fraction_bottom : Tok} (F : FunV K "fraction" "fraction" s_fraction [.int 1 tk_fraction_bottom] f fd) {C_NoFraction : Addr} (T_NoFraction : ExcR K mg "NoFraction" C_NoFraction) {f_divisor : Addr} {d_divisor : FuncData} (g_divisor : mg "divisor" = some (.ref f_divisor)) (k_divisor : PySem.W.keepIn K (.ref f_divisor) = true) (b_divisor : L2.Binds K d_divisor ["one", "other"] []) (G_divisor : FnOk Pr wo K mg base CX0 1 f_divisor d_divisor ["one", "other"] (sp_divisor K)) {f_is_number : Addr} {d_is_number : FuncData} (g_is_number : mg "is_number" = some (.ref f_is_number)) (k_is_number : PySem.W.keepIn K (.ref f_is_number) = true) (b_is_number : L2.Binds K d_is_number ["thing"] []) (G_is_number : FnOk Pr wo K mg base CX0 1 f_is_number d_is_number ["thing"] (sp_is_number K)) : FnOk Pr wo K mg base (L2.CX Pr wo) 2 f fd ["top", "bottom"] (sp_fraction K mg) := by
  refine F.okX sc_fraction (fun vs H Q E h => ?_) (fun cdv A outer s H0 vs Q E hr h => ?_)
  · obtain ⟨_, _, _, _, _, _, rfl, _⟩ := h; rfl
  · obtain ⟨B0, v_top, a_top, v_bottom, a_bottom, w, rfl, r_top, r_bottom, P⟩ := h
    have w0 := w
    have hu := hu_of hr
    have hu64 := hu64_of hr
    have hr1 : Room 1 _ := hr.mono (by decide)
    refine ⟨_, (pss_cons (ps_if (PW.pt (pw_or (pt_not (pt_val (pe_call G_is_number hr1 rfl g_is_number k_is_number b_is_number .nil pass0 (pa_cons (pv 0) pa_nil)))) (pw_or (pt_not (pt_val (pe_call G_is_number hr1 rfl g_is_number k_is_number b_is_number .nil pass0 (pa_cons (pv 1) pa_nil)))) (pw_or1 (pt_cmpR (r := rEqD K) (op_eqD hu64) (pv 1) pe_int (nomark _)))))) (pss_one (ps_raise rfl (takes_of rfl rfl rfl rfl) (pmk_own PySem.F.excBase_ValueError T_NoFraction.ex T_NoFraction.g T_NoFraction.kp (raises_own T_NoFraction.ec.hs T_NoFraction.ty) rfl))) pss_nil)
      (pss_cons (ps_set (i := 2) sc_fraction.nd rfl (by first | exact Or.inl rfl | exact Or.inr rfl) (pe_call G_divisor hr1 rfl g_divisor k_divisor b_divisor .nil pass0 (pa_cons (pv 0) (pa_cons (pv 1) pa_nil))))
      (pss_cons (ps_if (pt_cmpR op_lt (pv 1) pe_int (nomark _)) (pss_one (ps_set (i := 2) sc_fraction.nd rfl (by first | exact Or.inl rfl | exact Or.inr rfl) (pe_un un_neg (pv 2)))) pss_nil)
      (pss_one (ps_ret (pe_tup (pa_cons (pe_op op_fdivZ (pv 0) (pv 2)) (pa_cons (pe_op op_fdivZ (pv 1) (pv 2)) pa_nil)))))))), ?_⟩
    unfold m_fraction at P
    have st := Stp.refl (W := []) w
    refine h_seq <| h_if ?_
    refine h_tor ?_
    refine h_tnot ?_
    refine h_tB ?_
    refine h_call ?_
    refine h_cons ?_
    refine h_var rfl ?_
    refine h_nil ?_
    refine ⟨B0, v_top, a_top, w, rfl, (r_top.mono st.ex), (P.bind.noErr).mono (fun x1 P => ?_) (fun _ z => z.elim)⟩
    refine fun v5 B2 H3 s4 r6 => ?_
    replace st := st.go s4 go0
    replace w := s4.ok
    cases r6
    refine h_bl ?_
    refine h_iteN (fun c1 => ?_) (fun c1 => ?_)
    · replace P := P.iteF c1
      refine h_iteT ?_
      exact P.err _ _ _ T_NoFraction.g st
    · replace P := P.iteT c1
      refine h_tor ?_
      refine h_tnot ?_
      refine h_tB ?_
      refine h_call ?_
      refine h_cons ?_
      refine h_var rfl ?_
      refine h_nil ?_
      refine ⟨B2, v_bottom, a_bottom, w, rfl, (r_bottom.mono st.ex), (P.bind.noErr).mono (fun x7 P => ?_) (fun _ z => z.elim)⟩
      refine fun v11 B8 H9 s10 r12 => ?_
      replace st := st.go s10 go0
      replace w := s10.ok
      cases r12
      refine h_bl ?_
      refine h_iteN (fun c1 => ?_) (fun c1 => ?_)
      · replace P := P.iteF c1
        refine h_iteT ?_
        exact P.err _ _ _ T_NoFraction.g st
      · replace P := P.iteT c1
        refine h_test ?_
        refine h_op ?_
        refine h_var rfl ?_
        refine h_c ?_
        obtain ⟨gd, P⟩ := P.guard
        refine h_eqD (d := a_bottom) (e := (enc (0 : Int))) w (r_bottom.mono st.ex) (Rep.int _) gd ?_
        refine h_bl ?_
        refine h_ite (fun c1 => ?_) (fun c1 => ?_)
        · replace P := P.iteT c1
          exact P.err _ _ _ T_NoFraction.g st
        · replace P := P.iteF c1
          refine h_next ?_
          refine h_nx ?_
          refine h_set ?_
          refine h_call ?_
          refine h_cons ?_
          refine h_var rfl ?_
          refine h_cons ?_
          refine h_var rfl ?_
          refine h_nil ?_
          obtain ⟨i13, hi14, P⟩ := P.asI
          have rc15 := (r_top.mono st.ex)
          rw [hi14] at rc15
          cases rc15
          obtain ⟨i16, hi17, P⟩ := P.asI
          have rc18 := (r_bottom.mono st.ex)
          rw [hi17] at rc18
          cases rc18
          refine ⟨B8, i13, i16, w, rfl, (P.bind.noErr).mono (fun x19 P => ?_) (fun _ z => z.elim)⟩
          refine fun v23 B20 H21 s22 r24 => ?_
          replace st := st.go s22 go0
          replace w := s22.ok
          cases r24
          have wj26 := w
          have sj25 := Stp.refl (W := []) w
          refine h_joinS P (fun (a : Int) σ' H' => ∃ (B' : Hp), Stp [] B20 H21 B' H' ∧ σ' = [some (.int i13), some (.int i16), some (.int a)]) (fun N kk27 P => h_if ?_) ?_
          · skip
            refine h_test ?_
            refine h_op ?_
            refine h_var rfl ?_
            refine h_c ?_
            refine h_I0 ?_
            refine h_bl ?_
            refine h_ite (fun c1 => ?_) (fun c1 => ?_)
            · replace P := P.iteT c1
              refine h_set1 ?_
              refine h_un ?_
              refine h_var rfl ?_
              refine h_U ?_
              replace P := P.lt
              generalize hx : (-x19) = x28 at P ⊢
              refine h_nx ?_
              exact kk27 x28 _ _ ⟨_, sj25, rfl⟩ P.ok
            · replace P := P.iteF c1
              refine h_next ?_
              refine h_nx ?_
              exact kk27 x19 _ _ ⟨_, sj25, rfl⟩ P.ok
          rintro a29 _ H31 ⟨B30, s32, rfl⟩ P
          replace st := st.go s32 go0
          replace w := s32.ok
          refine h_ret ?_
          refine h_tup ?_
          refine h_cons ?_
          refine h_op ?_
          refine h_var rfl ?_
          refine h_var rfl ?_
          obtain ⟨gd, P⟩ := P.guard
          refine h_I gd ?_
          refine h_cons ?_
          refine h_op ?_
          refine h_var rfl ?_
          refine h_var rfl ?_
          obtain ⟨gd, P⟩ := P.guard
          refine h_I gd ?_
          refine h_nil ?_
          refine h_newT w (K := K) (.cons (Rep.int _) (.cons (Rep.int _) .nil)) (fun p33 B34 H35 s36 r37 => ?_) (by show 2 ≤ sizeLine; decide)
          replace st := st.go s36 go0
          replace w := s36.ok
          replace r37 : Rep K B34 (.ref p33) (enc (⟨(Int.fdiv i13 a29), (Int.fdiv i16 a29)⟩ : (Tp2 Int Int))) := r37
          exact P.ok _ _ _ st r37
theorem ok_plus {f : Addr} {fd : FuncData}  (F : Fun K "plus" "plus" s_plus f fd) {f_fraction : Addr} {d_fraction : FuncData} (g_fraction : mg "fraction" = some (.ref f_fraction)) (k_fraction : PySem.W.keepIn K (.ref f_fraction) = true) (b_fraction : L2.Binds K d_fraction ["top", "bottom"] []) (G_fraction : FnOk Pr wo K mg base (L2.CX Pr wo) 2 f_fraction d_fraction ["top", "bottom"] (sp_fraction K mg)) : FnOk Pr wo K mg base (L2.CX Pr wo) 3 f fd ["one", "other"] (sp_plus K mg) := by
  refine F.okX sc_plus (fun vs H Q E h => ?_) (fun cdv A outer s H0 vs Q E hr h => ?_)
  · obtain ⟨_, _, _, _, _, _, rfl, _⟩ := h; rfl
  · obtain ⟨B0, v_one, a_one, v_other, a_other, w, rfl, r_one, r_other, P⟩ := h
    have w0 := w
    have hu := hu_of hr
    have hu64 := hu64_of hr
    have hr2 : Room 2 _ := hr.mono (by decide)
    refine ⟨_, (pss_one (ps_ret (pe_callS G_fraction hr2 rfl g_fraction k_fraction b_fraction (fun σ => passAt (takes_of rfl rfl rfl rfl) σ) (pa_cons (pe_op op_add (pe_op op_mulW (pe_ix (r := rIxT K) ix_tup (pv 0) pe_int (fun _ _ => rfl)) (pe_ix (r := rIxT K) ix_tup (pv 1) pe_int (fun _ _ => rfl))) (pe_op op_mulW (pe_ix (r := rIxT K) ix_tup (pv 1) pe_int (fun _ _ => rfl)) (pe_ix (r := rIxT K) ix_tup (pv 0) pe_int (fun _ _ => rfl)))) (pa_cons (pe_op op_mulW (pe_ix (r := rIxT K) ix_tup (pv 0) pe_int (fun _ _ => rfl)) (pe_ix (r := rIxT K) ix_tup (pv 1) pe_int (fun _ _ => rfl))) pa_nil))))), ?_⟩
    unfold m_plus at P
    have st := Stp.refl (W := []) w
    refine h_ret ?_
    refine h_callS ?_
    refine h_cons ?_
    refine h_op ?_
    refine h_op ?_
    refine h_op ?_
    refine h_var rfl ?_
    refine h_c ?_
    obtain ⟨p1, xs2, rfl, hs3, hr4⟩ := Rep.st w (r_one.mono st.ex)
    obtain ⟨u5, hu, r6⟩ := RepL.at hr4 (i := 0) rfl
    refine h_ixT hs3 hu ?_
    cases r6
    refine h_op ?_
    refine h_var rfl ?_
    refine h_c ?_
    obtain ⟨p7, xs8, rfl, hs9, hr10⟩ := Rep.st w (r_other.mono st.ex)
    obtain ⟨u11, hu, r12⟩ := RepL.at hr10 (i := 1) rfl
    refine h_ixT hs9 hu ?_
    cases r12
    obtain ⟨gd, P⟩ := P.guard
    refine h_I gd ?_
    refine h_op ?_
    refine h_op ?_
    refine h_var rfl ?_
    refine h_c ?_
    obtain ⟨p13, xs14, hv, hs15, hr16⟩ := Rep.st w (r_other.mono st.ex)
    cases hv
    obtain ⟨u17, hu, r18⟩ := RepL.at hr16 (i := 0) rfl
    refine h_ixT hs15 hu ?_
    cases r18
    refine h_op ?_
    refine h_var rfl ?_
    refine h_c ?_
    obtain ⟨p19, xs20, hv, hs21, hr22⟩ := Rep.st w (r_one.mono st.ex)
    cases hv
    obtain ⟨u23, hu, r24⟩ := RepL.at hr22 (i := 1) rfl
    refine h_ixT hs21 hu ?_
    cases r24
    obtain ⟨gd, P⟩ := P.guard
    refine h_I gd ?_
    refine h_I0 ?_
    refine h_cons ?_
    refine h_op ?_
    refine h_op ?_
    refine h_var rfl ?_
    refine h_c ?_
    obtain ⟨p25, xs26, hv, hs27, hr28⟩ := Rep.st w (r_one.mono st.ex)
    cases hv
    obtain ⟨u29, hu, r30⟩ := RepL.at hr28 (i := 1) rfl
    refine h_ixT hs27 hu ?_
    cases r30
    refine h_op ?_
    refine h_var rfl ?_
    refine h_c ?_
    obtain ⟨p31, xs32, hv, hs33, hr34⟩ := Rep.st w (r_other.mono st.ex)
    cases hv
    obtain ⟨u35, hu, r36⟩ := RepL.at hr34 (i := 1) rfl
    refine h_ixT hs33 hu ?_
    cases r36
    obtain ⟨gd, P⟩ := P.guard
    refine h_I gd ?_
    refine h_nil ?_
    refine ⟨B0, .int ((a_one.a * a_other.b) + (a_other.a * a_one.b)), (enc (((a_one.a * a_other.b) + (a_other.a * a_one.b)) : Int)), .int (a_one.b * a_other.b), (enc ((a_one.b * a_other.b) : Int)), w, rfl, (Rep.int _), (Rep.int _), Post.mono2 P.bind (fun e43 P => ?_) (fun x37 P => ?_)⟩
    · skip
      exact fun C B' H' g s => P C B' H' g (st.go s go0)
    refine fun v41 B38 H39 s40 r42 => ?_
    replace st := st.go s40 go0
    replace w := s40.ok
    exact P.ok _ _ _ st r42
theorem ok_minus {f : Addr} {fd : FuncData}  (F : Fun K "minus" "minus" s_minus f fd) {f_fraction : Addr} {d_fraction : FuncData} (g_fraction : mg "fraction" = some (.ref f_fraction)) (k_fraction : PySem.W.keepIn K (.ref f_fraction) = true) (b_fraction : L2.Binds K d_fraction ["top", "bottom"] []) (G_fraction : FnOk Pr wo K mg base (L2.CX Pr wo) 2 f_fraction d_fraction ["top", "bottom"] (sp_fraction K mg)) : FnOk Pr wo K mg base (L2.CX Pr wo) 3 f fd ["one", "other"] (sp_minus K mg) := by
  refine F.okX sc_minus (fun vs H Q E h => ?_) (fun cdv A outer s H0 vs Q E hr h => ?_)
  · obtain ⟨_, _, _, _, _, _, rfl, _⟩ := h; rfl
  · obtain ⟨B0, v_one, a_one, v_other, a_other, w, rfl, r_one, r_other, P⟩ := h
    have w0 := w
    have hu := hu_of hr
    have hu64 := hu64_of hr
    have hr2 : Room 2 _ := hr.mono (by decide)
    refine ⟨_, (pss_one (ps_ret (pe_callS G_fraction hr2 rfl g_fraction k_fraction b_fraction (fun σ => passAt (takes_of rfl rfl rfl rfl) σ) (pa_cons (pe_op op_sub (pe_op op_mulW (pe_ix (r := rIxT K) ix_tup (pv 0) pe_int (fun _ _ => rfl)) (pe_ix (r := rIxT K) ix_tup (pv 1) pe_int (fun _ _ => rfl))) (pe_op op_mulW (pe_ix (r := rIxT K) ix_tup (pv 1) pe_int (fun _ _ => rfl)) (pe_ix (r := rIxT K) ix_tup (pv 0) pe_int (fun _ _ => rfl)))) (pa_cons (pe_op op_mulW (pe_ix (r := rIxT K) ix_tup (pv 0) pe_int (fun _ _ => rfl)) (pe_ix (r := rIxT K) ix_tup (pv 1) pe_int (fun _ _ => rfl))) pa_nil))))), ?_⟩
    unfold m_minus at P
    have st := Stp.refl (W := []) w
    refine h_ret ?_
    refine h_callS ?_
    refine h_cons ?_
    refine h_op ?_
    refine h_op ?_
    refine h_op ?_
    refine h_var rfl ?_
    refine h_c ?_
    obtain ⟨p1, xs2, rfl, hs3, hr4⟩ := Rep.st w (r_one.mono st.ex)
    obtain ⟨u5, hu, r6⟩ := RepL.at hr4 (i := 0) rfl
    refine h_ixT hs3 hu ?_
    cases r6
    refine h_op ?_
    refine h_var rfl ?_
    refine h_c ?_
    obtain ⟨p7, xs8, rfl, hs9, hr10⟩ := Rep.st w (r_other.mono st.ex)
    obtain ⟨u11, hu, r12⟩ := RepL.at hr10 (i := 1) rfl
    refine h_ixT hs9 hu ?_
    cases r12
    obtain ⟨gd, P⟩ := P.guard
    refine h_I gd ?_
    refine h_op ?_
    refine h_op ?_
    refine h_var rfl ?_
    refine h_c ?_
    obtain ⟨p13, xs14, hv, hs15, hr16⟩ := Rep.st w (r_other.mono st.ex)
    cases hv
    obtain ⟨u17, hu, r18⟩ := RepL.at hr16 (i := 0) rfl
    refine h_ixT hs15 hu ?_
    cases r18
    refine h_op ?_
    refine h_var rfl ?_
    refine h_c ?_
    obtain ⟨p19, xs20, hv, hs21, hr22⟩ := Rep.st w (r_one.mono st.ex)
    cases hv
    obtain ⟨u23, hu, r24⟩ := RepL.at hr22 (i := 1) rfl
    refine h_ixT hs21 hu ?_
    cases r24
    obtain ⟨gd, P⟩ := P.guard
    refine h_I gd ?_
    refine h_I0 ?_
    refine h_cons ?_
    refine h_op ?_
    refine h_op ?_
    refine h_var rfl ?_
    refine h_c ?_
    obtain ⟨p25, xs26, hv, hs27, hr28⟩ := Rep.st w (r_one.mono st.ex)
    cases hv
    obtain ⟨u29, hu, r30⟩ := RepL.at hr28 (i := 1) rfl
    refine h_ixT hs27 hu ?_
    cases r30
    refine h_op ?_
    refine h_var rfl ?_
    refine h_c ?_
    obtain ⟨p31, xs32, hv, hs33, hr34⟩ := Rep.st w (r_other.mono st.ex)
    cases hv
    obtain ⟨u35, hu, r36⟩ := RepL.at hr34 (i := 1) rfl
    refine h_ixT hs33 hu ?_
    cases r36
    obtain ⟨gd, P⟩ := P.guard
    refine h_I gd ?_
    refine h_nil ?_
    refine ⟨B0, .int ((a_one.a * a_other.b) - (a_other.a * a_one.b)), (enc (((a_one.a * a_other.b) - (a_other.a * a_one.b)) : Int)), .int (a_one.b * a_other.b), (enc ((a_one.b * a_other.b) : Int)), w, rfl, (Rep.int _), (Rep.int _), Post.mono2 P.bind (fun e43 P => ?_) (fun x37 P => ?_)⟩
    · skip
      exact fun C B' H' g s => P C B' H' g (st.go s go0)
    refine fun v41 B38 H39 s40 r42 => ?_
    replace st := st.go s40 go0
    replace w := s40.ok
    exact P.ok _ _ _ st r42
theorem ok_times {f : Addr} {fd : FuncData}  (F : Fun K "times" "times" s_times f fd) {f_fraction : Addr} {d_fraction : FuncData} (g_fraction : mg "fraction" = some (.ref f_fraction)) (k_fraction : PySem.W.keepIn K (.ref f_fraction) = true) (b_fraction : L2.Binds K d_fraction ["top", "bottom"] []) (G_fraction : FnOk Pr wo K mg base (L2.CX Pr wo) 2 f_fraction d_fraction ["top", "bottom"] (sp_fraction K mg)) : FnOk Pr wo K mg base (L2.CX Pr wo) 3 f fd ["one", "other"] (sp_times K mg) := by
  refine F.okX sc_times (fun vs H Q E h => ?_) (fun cdv A outer s H0 vs Q E hr h => ?_)
  · obtain ⟨_, _, _, _, _, _, rfl, _⟩ := h; rfl
  · obtain ⟨B0, v_one, a_one, v_other, a_other, w, rfl, r_one, r_other, P⟩ := h
    have w0 := w
    have hu := hu_of hr
    have hu64 := hu64_of hr
    have hr2 : Room 2 _ := hr.mono (by decide)
    refine ⟨_, (pss_one (ps_ret (pe_callS G_fraction hr2 rfl g_fraction k_fraction b_fraction (fun σ => passAt (takes_of rfl rfl rfl rfl) σ) (pa_cons (pe_op op_mulW (pe_ix (r := rIxT K) ix_tup (pv 0) pe_int (fun _ _ => rfl)) (pe_ix (r := rIxT K) ix_tup (pv 1) pe_int (fun _ _ => rfl))) (pa_cons (pe_op op_mulW (pe_ix (r := rIxT K) ix_tup (pv 0) pe_int (fun _ _ => rfl)) (pe_ix (r := rIxT K) ix_tup (pv 1) pe_int (fun _ _ => rfl))) pa_nil))))), ?_⟩
    unfold m_times at P
    have st := Stp.refl (W := []) w
    refine h_ret ?_
    refine h_callS ?_
    refine h_cons ?_
    refine h_op ?_
    refine h_op ?_
    refine h_var rfl ?_
    refine h_c ?_
    obtain ⟨p1, xs2, rfl, hs3, hr4⟩ := Rep.st w (r_one.mono st.ex)
    obtain ⟨u5, hu, r6⟩ := RepL.at hr4 (i := 0) rfl
    refine h_ixT hs3 hu ?_
    cases r6
    refine h_op ?_
    refine h_var rfl ?_
    refine h_c ?_
    obtain ⟨p7, xs8, rfl, hs9, hr10⟩ := Rep.st w (r_other.mono st.ex)
    obtain ⟨u11, hu, r12⟩ := RepL.at hr10 (i := 0) rfl
    refine h_ixT hs9 hu ?_
    cases r12
    obtain ⟨gd, P⟩ := P.guard
    refine h_I gd ?_
    refine h_cons ?_
    refine h_op ?_
    refine h_op ?_
    refine h_var rfl ?_
    refine h_c ?_
    obtain ⟨p13, xs14, hv, hs15, hr16⟩ := Rep.st w (r_one.mono st.ex)
    cases hv
    obtain ⟨u17, hu, r18⟩ := RepL.at hr16 (i := 1) rfl
    refine h_ixT hs15 hu ?_
    cases r18
    refine h_op ?_
    refine h_var rfl ?_
    refine h_c ?_
    obtain ⟨p19, xs20, hv, hs21, hr22⟩ := Rep.st w (r_other.mono st.ex)
    cases hv
    obtain ⟨u23, hu, r24⟩ := RepL.at hr22 (i := 1) rfl
    refine h_ixT hs21 hu ?_
    cases r24
    obtain ⟨gd, P⟩ := P.guard
    refine h_I gd ?_
    refine h_nil ?_
    refine ⟨B0, .int (a_one.a * a_other.a), (enc ((a_one.a * a_other.a) : Int)), .int (a_one.b * a_other.b), (enc ((a_one.b * a_other.b) : Int)), w, rfl, (Rep.int _), (Rep.int _), Post.mono2 P.bind (fun e31 P => ?_) (fun x25 P => ?_)⟩
    · skip
      exact fun C B' H' g s => P C B' H' g (st.go s go0)
    refine fun v29 B26 H27 s28 r30 => ?_
    replace st := st.go s28 go0
    replace w := s28.ok
    exact P.ok _ _ _ st r30
theorem ok_shared {f : Addr} {fd : FuncData}  (F : Fun K "shared" "shared" s_shared f fd) {C_NoFraction : Addr} (T_NoFraction : ExcR K mg "NoFraction" C_NoFraction) {f_fraction : Addr} {d_fraction : FuncData} (g_fraction : mg "fraction" = some (.ref f_fraction)) (k_fraction : PySem.W.keepIn K (.ref f_fraction) = true) (b_fraction : L2.Binds K d_fraction ["top", "bottom"] []) (G_fraction : FnOk Pr wo K mg base (L2.CX Pr wo) 2 f_fraction d_fraction ["top", "bottom"] (sp_fraction K mg)) : FnOk Pr wo K mg base (L2.CX Pr wo) 3 f fd ["one", "other"] (sp_shared K mg) := by
  refine F.okX sc_shared (fun vs H Q E h => ?_) (fun cdv A outer s H0 vs Q E hr h => ?_)
  · obtain ⟨_, _, _, _, _, _, rfl, _⟩ := h; rfl
  · obtain ⟨B0, v_one, a_one, v_other, a_other, w, rfl, r_one, r_other, P⟩ := h
    have w0 := w
    have hu := hu_of hr
    have hu64 := hu64_of hr
    have hr2 : Room 2 _ := hr.mono (by decide)
    refine ⟨_, (pss_cons (ps_if (pt_cmpR op_eq (pe_ix (r := rIxT K) ix_tup (pv 1) pe_int (fun _ _ => rfl)) pe_int (nomark _)) (pss_one (ps_raise rfl (takes_of rfl rfl rfl rfl) (pmk_own PySem.F.excBase_ValueError T_NoFraction.ex T_NoFraction.g T_NoFraction.kp (raises_own T_NoFraction.ec.hs T_NoFraction.ty) rfl))) pss_nil)
      (pss_one (ps_ret (pe_callS G_fraction hr2 rfl g_fraction k_fraction b_fraction (fun σ => passAt (takes_of rfl rfl rfl rfl) σ) (pa_cons (pe_op op_mulW (pe_ix (r := rIxT K) ix_tup (pv 0) pe_int (fun _ _ => rfl)) (pe_ix (r := rIxT K) ix_tup (pv 1) pe_int (fun _ _ => rfl))) (pa_cons (pe_op op_mulW (pe_ix (r := rIxT K) ix_tup (pv 0) pe_int (fun _ _ => rfl)) (pe_ix (r := rIxT K) ix_tup (pv 1) pe_int (fun _ _ => rfl))) pa_nil)))))), ?_⟩
    unfold m_shared at P
    have st := Stp.refl (W := []) w
    refine h_seq <| h_if ?_
    refine h_test ?_
    refine h_op ?_
    refine h_op ?_
    refine h_var rfl ?_
    refine h_c ?_
    obtain ⟨p1, xs2, rfl, hs3, hr4⟩ := Rep.st w (r_other.mono st.ex)
    obtain ⟨u5, hu, r6⟩ := RepL.at hr4 (i := 0) rfl
    refine h_ixT hs3 hu ?_
    cases r6
    refine h_c ?_
    refine h_eqI ?_
    refine h_bl ?_
    refine h_ite (fun c1 => ?_) (fun c1 => ?_)
    · replace P := P.iteT c1
      exact P.err _ _ _ T_NoFraction.g st
    · replace P := P.iteF c1
      refine h_next ?_
      refine h_nx ?_
      refine h_ret ?_
      refine h_callS ?_
      refine h_cons ?_
      refine h_op ?_
      refine h_op ?_
      refine h_var rfl ?_
      refine h_c ?_
      obtain ⟨p7, xs8, rfl, hs9, hr10⟩ := Rep.st w (r_one.mono st.ex)
      obtain ⟨u11, hu, r12⟩ := RepL.at hr10 (i := 0) rfl
      refine h_ixT hs9 hu ?_
      cases r12
      refine h_op ?_
      refine h_var rfl ?_
      refine h_c ?_
      obtain ⟨p13, xs14, hv, hs15, hr16⟩ := Rep.st w (r_other.mono st.ex)
      cases hv
      obtain ⟨u17, hu, r18⟩ := RepL.at hr16 (i := 1) rfl
      refine h_ixT hs15 hu ?_
      cases r18
      obtain ⟨gd, P⟩ := P.guard
      refine h_I gd ?_
      refine h_cons ?_
      refine h_op ?_
      refine h_op ?_
      refine h_var rfl ?_
      refine h_c ?_
      obtain ⟨p19, xs20, hv, hs21, hr22⟩ := Rep.st w (r_one.mono st.ex)
      cases hv
      obtain ⟨u23, hu, r24⟩ := RepL.at hr22 (i := 1) rfl
      refine h_ixT hs21 hu ?_
      cases r24
      refine h_op ?_
      refine h_var rfl ?_
      refine h_c ?_
      obtain ⟨p25, xs26, hv, hs27, hr28⟩ := Rep.st w (r_other.mono st.ex)
      cases hv
      obtain ⟨u29, hu, r30⟩ := RepL.at hr28 (i := 0) rfl
      refine h_ixT hs27 hu ?_
      cases r30
      obtain ⟨gd, P⟩ := P.guard
      refine h_I gd ?_
      refine h_nil ?_
      refine ⟨B0, .int (a_one.a * a_other.b), (enc ((a_one.a * a_other.b) : Int)), .int (a_one.b * a_other.a), (enc ((a_one.b * a_other.a) : Int)), w, rfl, (Rep.int _), (Rep.int _), Post.mono2 P.bind (fun e37 P => ?_) (fun x31 P => ?_)⟩
      · skip
        exact fun C B' H' g s => P C B' H' g (st.go s go0)
      refine fun v35 B32 H33 s34 r36 => ?_
      replace st := st.go s34 go0
      replace w := s34.ok
      exact P.ok _ _ _ st r36
theorem ok__law_cell_at {f : Addr} {fd : FuncData}  (F : Fun K "_law_cell_at" "_law_cell_at" s__law_cell_at f fd) (bI_len : mg "len" = none) : FnOk Pr wo K mg base CX0 1 f fd ["_law_script", "_law_k"] (sp__law_cell_at K) := by
  refine F.ok sc__law_cell_at (fun vs H Q E h => ?_) (fun cdv A outer s H0 vs Q E hr h => ?_)
  · obtain ⟨_, _, _, _, _, rfl, _⟩ := h; rfl
  · obtain ⟨B0, v_script, a_script, a_k, w, rfl, r_script, P⟩ := h
    have w0 := w
    have hu := hu_of hr
    have hu64 := hu64_of hr
    refine ⟨_, (pss_cons (ps_if (pt_cmpR op_lt (pv 1) (pe_callB (r := rLenY K) cr_len (by rfl) bI_len PySem.boot_len (pa_cons (pv 0) pa_nil)) (nomark _)) (pss_one (ps_ret (pe_ix (r := rIxL K) ix_list (pv 0) (pv 1) (fun _ _ => rfl)))) pss_nil)
      (pss_one (ps_ret pe_int))), ?_⟩
    unfold l_cell_at at P
    have st := Stp.refl (W := []) w
    refine h_seq <| h_if ?_
    refine h_test ?_
    refine h_op ?_
    refine h_var rfl ?_
    refine h_cb ?_
    refine h_cons ?_
    refine h_var rfl ?_
    refine h_nil ?_
    obtain ⟨p1, xs2, rfl, hs3, hr4⟩ := Bor.sq (r_script.step st)
    refine h_len hs3 hr4 ?_
    refine h_I0 ?_
    refine h_bl ?_
    refine h_ite (fun c1 => ?_) (fun c1 => ?_)
    · replace P := P.iteT c1
      refine h_ret ?_
      refine h_op ?_
      refine h_var rfl ?_
      refine h_var rfl ?_
      obtain ⟨p5, xs6, hv, hs7, hr8⟩ := Bor.sq (r_script.step st)
      cases hv
      obtain ⟨x9, hx10, P⟩ := P.ix
      obtain ⟨u11, hu, r12⟩ := RepL.atE hr8 hx10
      refine h_ixL hs7 hu ?_
      cases r12
      exact P.ok _ _ _ st (Rep.int _)
    · replace P := P.iteF c1
      refine h_next ?_
      refine h_nx ?_
      refine h_ret ?_
      refine h_c ?_
      exact P.ok _ _ _ st (Rep.int _)
theorem ok__law_digit {f : Addr} {fd : FuncData}  (F : Fun K "_law_digit" "_law_digit" s__law_digit f fd) (bI_len : mg "len" = none) : FnOk Pr wo K mg base CX0 1 f fd ["_law_state", "_law_base"] (sp__law_digit K) := by
  refine F.ok sc__law_digit (fun vs H Q E h => ?_) (fun cdv A outer s H0 vs Q E hr h => ?_)
  · obtain ⟨_, _, _, _, _, rfl, _⟩ := h; rfl
  · obtain ⟨B0, p_state, a_state, a_base, w, rfl, m_state, P⟩ := h
    have w0 := w
    have hu := hu_of hr
    have hu64 := hu64_of hr
    refine ⟨_, (pss_cons (ps_if (pt_cmpR op_eq (pe_callB (r := rLenY K) cr_len (by rfl) bI_len PySem.boot_len (pa_cons (pv 0) pa_nil)) pe_int (nomark _)) (pss_one (ps_expr (pe_bm PySem.F.plainAttrs_list PySem.F.slot_list_extend PySem.F.type_list_extend mt_extend (pv 0) (pa_cons (pe_lst (pa_cons (pe_op op_mod (pe_ix (r := rIxL K) ix_list (pv 0) pe_int (fun _ _ => rfl)) pe_int) (pa_cons pe_int pa_nil))) pa_nil)))) pss_nil)
      (pss_cons (ps_if (pt_cmpR op_ge (pe_ix (r := rIxL K) ix_list (pv 0) pe_int (fun _ _ => rfl)) (pv 1) (nomark _)) (pss_cons (ps_set (i := 2) sc__law_digit.nd rfl (by first | exact Or.inl rfl | exact Or.inr rfl) (pe_op op_mod (pe_ix (r := rIxL K) ix_list (pv 0) pe_int (fun _ _ => rfl)) (pv 1)))
      (pss_cons (ps_asg (pe_op op_fdivW (pe_ix (r := rIxL K) ix_list (pv 0) pe_int (fun _ _ => rfl)) (pv 1)) (pg_sub (pv 0) pe_int set_list))
      (pss_one (ps_ret (pv 2))))) pss_nil)
      (pss_cons (ps_asg (pe_op op_add (pe_ix (r := rIxL K) ix_list (pv 0) pe_int (fun _ _ => rfl)) pe_int) (pg_sub (pv 0) pe_int set_list))
      (pss_cons (ps_set (i := 3) sc__law_digit.nd rfl (by first | exact Or.inl rfl | exact Or.inr rfl) (pe_op op_mod (pe_op op_mul (pe_op op_add (pe_op op_add (pe_ix (r := rIxL K) ix_list (pv 0) pe_int (fun _ _ => rfl)) (pe_op op_mul pe_int (pe_ix (r := rIxL K) ix_list (pv 0) pe_int (fun _ _ => rfl)))) pe_int) pe_int) pe_int))
      (pss_cons (ps_set (i := 3) sc__law_digit.nd rfl (by first | exact Or.inl rfl | exact Or.inr rfl) (pe_op op_mod (pe_op op_mulW (pv 3) (pe_op op_add (pe_op op_fdiv (pv 3) pe_int) pe_int)) pe_int))
      (pss_one (ps_ret (pe_op op_mod (pe_op op_mod (pe_op op_mulW (pv 3) (pe_op op_add (pe_op op_fdiv (pv 3) pe_int) pe_int)) pe_int) (pv 1))))))))), ?_⟩
    unfold l_digit at P
    have st := Stp.refl (W := [p_state]) w
    have wj2 := w
    have sj1 := Stp.refl (W := [p_state]) w
    refine h_joinS P (fun (a : (List Int)) σ' H' => ∃ (B' : Hp), Stp [p_state] B0 H0 B' H' ∧ σ' = [some ((.ref p_state)), some (.int a_base), none, none] ∧ Mu K B' H' p_state (a.map enc)) (fun N kk3 P => h_if ?_) ?_
    · skip
      refine h_test ?_
      refine h_op ?_
      refine h_cb ?_
      refine h_cons ?_
      refine h_var rfl ?_
      refine h_nil ?_
      obtain ⟨xs5, hv, hs6, hr7⟩ := Mu.sq m_state
      refine h_len hs6 hr7 ?_
      refine h_c ?_
      refine h_eqI ?_
      refine h_bl ?_
      refine h_ite (fun c1 => ?_) (fun c1 => ?_)
      · replace P := P.iteT c1
        refine h_drop ?_
        refine h_bm ?_
        refine h_var rfl ?_
        refine h_bmL m_state ?_
        refine h_cons ?_
        refine h_lst ?_
        refine h_cons ?_
        refine h_op ?_
        refine h_op ?_
        refine h_var rfl ?_
        refine h_c ?_
        obtain ⟨xs9, hv, hs10, hr11⟩ := Mu.sq m_state
        obtain ⟨x12, hx13, P⟩ := P.ix
        obtain ⟨u14, hu, r15⟩ := RepL.atE hr11 hx13
        refine h_ixL hs10 hu ?_
        cases r15
        refine h_c ?_
        refine h_I (by decide +kernel) ?_
        refine h_cons ?_
        refine h_c ?_
        refine h_nil ?_
        refine h_newM w (ds := (([(x12 % 2147483647), 0] : List Int)).map enc) (K := K) (.cons (Rep.int _) (.cons (Rep.int _) .nil)) (fun p16 H17 hn20 s18 m19 => ?_) (by show 2 ≤ sizeLine; decide)
        have n21 := st.nn hn20
        have n22 := sj1.nn hn20
        have ne23 := Mu.ne m_state hn20
        replace m_state := m_state.step s18 nm0
        replace st := st.go s18 go0
        replace sj1 := sj1.go s18 go0
        replace w := s18.ok
        refine h_nil ?_
        obtain ⟨gd, P⟩ := P.guard
        refine h_extend w m_state m19 gd (fun H24 s25 m_state => ?_)
        replace st := st.go s25 (go1 (.inl (by simp)))
        replace sj1 := sj1.go s25 (go1 (.inl (by simp)))
        replace w := s25.ok
        refine h_nx ?_
        exact kk3 (a_state ++ ([(x12 % 2147483647), 0] : List Int)) _ _ ⟨_, sj1, rfl, m_state⟩ P.ok
      · replace P := P.iteF c1
        refine h_next ?_
        refine h_nx ?_
        exact kk3 a_state _ _ ⟨_, sj1, rfl, m_state⟩ P.ok
    rintro a26 _ H28 ⟨B27, s29, rfl, m_state⟩ P
    replace st := st.go s29 (go1 (.inl (by simp)))
    replace w := s29.ok
    refine h_seq <| h_if ?_
    refine h_test ?_
    refine h_op ?_
    refine h_op ?_
    refine h_var rfl ?_
    refine h_c ?_
    obtain ⟨xs31, hv, hs32, hr33⟩ := Mu.sq m_state
    obtain ⟨x34, hx35, P⟩ := P.ix
    obtain ⟨u36, hu, r37⟩ := RepL.atE hr33 hx35
    refine h_ixL hs32 hu ?_
    cases r37
    refine h_var rfl ?_
    refine h_I0 ?_
    refine h_bl ?_
    refine h_ite (fun c1 => ?_) (fun c1 => ?_)
    · replace P := P.iteT c1
      refine h_set ?_
      refine h_op ?_
      refine h_op ?_
      refine h_var rfl ?_
      refine h_c ?_
      obtain ⟨xs39, hv, hs40, hr41⟩ := Mu.sq m_state
      obtain ⟨x42, hx43, P⟩ := P.ix
      obtain ⟨u44, hu, r45⟩ := RepL.atE hr41 hx43
      refine h_ixL hs40 hu ?_
      cases r45
      refine h_var rfl ?_
      obtain ⟨gd, P⟩ := P.guard
      refine h_I gd ?_
      replace P := P.lt
      generalize hx : (x42 % a_base) = x46 at P ⊢
      refine h_seq ?_
      refine h_asg ?_
      refine h_op ?_
      refine h_op ?_
      refine h_var rfl ?_
      refine h_c ?_
      obtain ⟨xs48, hv, hs49, hr50⟩ := Mu.sq m_state
      obtain ⟨x51, hx52, P⟩ := P.ix
      obtain ⟨u53, hu, r54⟩ := RepL.atE hr50 hx52
      refine h_ixL hs49 hu ?_
      cases r54
      refine h_var rfl ?_
      obtain ⟨gd, P⟩ := P.guard
      refine h_I gd ?_
      refine h_sub ?_
      refine h_var rfl ?_
      refine h_c ?_
      obtain ⟨j56, hj57, P⟩ := P.set
      refine h_setL (b := (x51 / a_base)) w m_state (Rep.int _) hj57 (fun H58 s59 m_state => ?_)
      replace st := st.go s59 (go1 (.inl (by simp)))
      replace w := s59.ok
      generalize hl : List.set a26 j56 (x51 / a_base) = x55 at *
      refine h_nx ?_
      refine h_ret ?_
      refine h_var rfl ?_
      exact P.ok _ _ _ st m_state (Rep.int _)
    · replace P := P.iteF c1
      refine h_next ?_
      refine h_nx ?_
      refine h_seq ?_
      refine h_asg ?_
      refine h_op ?_
      refine h_op ?_
      refine h_var rfl ?_
      refine h_c ?_
      obtain ⟨xs61, hv, hs62, hr63⟩ := Mu.sq m_state
      obtain ⟨x64, hx65, P⟩ := P.ix
      obtain ⟨u66, hu, r67⟩ := RepL.atE hr63 hx65
      refine h_ixL hs62 hu ?_
      cases r67
      refine h_c ?_
      refine h_I0 ?_
      refine h_sub ?_
      refine h_var rfl ?_
      refine h_c ?_
      obtain ⟨j69, hj70, P⟩ := P.set
      refine h_setL (b := (x64 + 1)) w m_state (Rep.int _) hj70 (fun H71 s72 m_state => ?_)
      replace st := st.go s72 (go1 (.inl (by simp)))
      replace w := s72.ok
      generalize hl : List.set a26 j69 (x64 + 1) = x68 at *
      refine h_nx ?_
      refine h_set ?_
      refine h_op ?_
      refine h_op ?_
      refine h_op ?_
      refine h_op ?_
      refine h_op ?_
      refine h_var rfl ?_
      refine h_c ?_
      obtain ⟨xs74, hv, hs75, hr76⟩ := Mu.sq m_state
      obtain ⟨x77, hx78, P⟩ := P.ix
      obtain ⟨u79, hu, r80⟩ := RepL.atE hr76 hx78
      refine h_ixL hs75 hu ?_
      cases r80
      refine h_op ?_
      refine h_c ?_
      refine h_op ?_
      refine h_var rfl ?_
      refine h_c ?_
      obtain ⟨xs82, hv, hs83, hr84⟩ := Mu.sq m_state
      obtain ⟨x85, hx86, P⟩ := P.ix
      obtain ⟨u87, hu, r88⟩ := RepL.atE hr84 hx86
      refine h_ixL hs83 hu ?_
      cases r88
      refine h_I (.inl ⟨by decide +kernel, by decide +kernel⟩) ?_
      refine h_I0 ?_
      refine h_c ?_
      refine h_I0 ?_
      refine h_c ?_
      refine h_I (.inr ⟨by decide +kernel, by decide +kernel⟩) ?_
      refine h_c ?_
      refine h_I (by decide +kernel) ?_
      replace P := P.lt
      generalize hx : ((((x77 + (7919 * x85)) + 1) * 48271) % 2147483647) = x89 at P ⊢
      refine h_set ?_
      refine h_op ?_
      refine h_op ?_
      refine h_var rfl ?_
      refine h_op ?_
      refine h_op ?_
      refine h_var rfl ?_
      refine h_c ?_
      refine h_I ⟨by decide +kernel, by decide +kernel⟩ ?_
      refine h_c ?_
      refine h_I0 ?_
      obtain ⟨gd, P⟩ := P.guard
      refine h_I gd ?_
      refine h_c ?_
      refine h_I (by decide +kernel) ?_
      replace P := P.lt
      generalize hx : ((x89 * ((x89 / 1009) + 69621)) % 2147483647) = x90 at P ⊢
      refine h_ret ?_
      refine h_op ?_
      refine h_op ?_
      refine h_op ?_
      refine h_var rfl ?_
      refine h_op ?_
      refine h_op ?_
      refine h_var rfl ?_
      refine h_c ?_
      refine h_I ⟨by decide +kernel, by decide +kernel⟩ ?_
      refine h_c ?_
      refine h_I0 ?_
      obtain ⟨gd, P⟩ := P.guard
      refine h_I gd ?_
      refine h_c ?_
      refine h_I (by decide +kernel) ?_
      refine h_var rfl ?_
      obtain ⟨gd, P⟩ := P.guard
      refine h_I gd ?_
      exact P.ok _ _ _ st m_state (Rep.int _)
theorem ok__law_great {f : Addr} {fd : FuncData}  (F : Fun K "_law_great" "_law_great" s__law_great f fd) {f__law_digit : Addr} {d__law_digit : FuncData} (g__law_digit : mg "_law_digit" = some (.ref f__law_digit)) (k__law_digit : PySem.W.keepIn K (.ref f__law_digit) = true) (b__law_digit : L2.Binds K d__law_digit ["_law_state", "_law_base"] []) (G__law_digit : FnOk Pr wo K mg base CX0 1 f__law_digit d__law_digit ["_law_state", "_law_base"] (sp__law_digit K)) (bI_range : mg "range" = none) : FnOk Pr wo K mg base CX0 2 f fd ["_law_state", "_law_few"] (sp__law_great K) := by
  refine F.ok sc__law_great (fun vs H Q E h => ?_) (fun cdv A outer s H0 vs Q E hr h => ?_)
  · obtain ⟨_, _, _, _, _, rfl, _⟩ := h; rfl
  · obtain ⟨B0, p_state, a_state, a_few, w, rfl, m_state, P⟩ := h
    have w0 := w
    have hu := hu_of hr
    have hu64 := hu64_of hr
    have hr1 : Room 1 _ := hr.mono (by decide)
    refine ⟨_, (pss_cons (ps_set (i := 2) sc__law_great.nd rfl (by first | exact Or.inl rfl | exact Or.inr rfl) pe_int)
      (pss_cons (ps_for PassesOwn.never rfl (pi_range1 (by rfl) bI_range (pa_cons (pe_ix (r := rIxL K) ix_list (pe_lst (pa_cons pe_int (pa_cons (pv 1) pa_nil))) (pe_call G__law_digit hr1 rfl g__law_digit k__law_digit b__law_digit .nil pass0 (pa_cons (pv 0) (pa_cons pe_int pa_nil))) (fun _ _ => rfl)) pa_nil)) (pg_name (i := 3) sc__law_great.nd rfl (by first | exact Or.inl rfl | exact Or.inr rfl)) (pss_one (ps_set (i := 2) sc__law_great.nd rfl (by first | exact Or.inl rfl | exact Or.inr rfl) (pe_op op_add (pe_op op_mul (pv 2) (pe_op op_pow pe_int pe_int)) (pe_call G__law_digit hr1 rfl g__law_digit k__law_digit b__law_digit .nil pass0 (pa_cons (pv 0) (pa_cons (pe_op op_add (pe_op op_pow pe_int pe_int) pe_int) pa_nil)))))))
      (pss_one (ps_ret (pv 2))))), ?_⟩
    unfold l_great at P
    have st := Stp.refl (W := [p_state]) w
    refine h_set ?_
    refine h_c ?_
    refine h_seq ?_
    refine h_rng1 ?_
    refine h_cons ?_
    refine h_op ?_
    refine h_lst ?_
    refine h_cons ?_
    refine h_c ?_
    refine h_cons ?_
    refine h_var rfl ?_
    refine h_nil ?_
    refine h_newL w (ds := (([2, a_few] : List Int)).map enc) (K := K) (.cons (Rep.int _) (.cons (Rep.int _) .nil)) (fun p1 B2 H3 s4 r5 => ?_) (by show 2 ≤ sizeLine; decide)
    replace m_state := m_state.step s4 nm0
    replace st := st.go s4 go0
    replace w := s4.ok
    replace r5 : Rep K B2 (.ref p1) (enc ([2, a_few] : List Int)) := r5
    refine h_call ?_
    refine h_cons ?_
    refine h_var rfl ?_
    refine h_cons ?_
    refine h_c ?_
    refine h_nil ?_
    refine ⟨B2, p_state, a_state, 2, w, rfl, m_state, (P.bind).mono (fun x6 P => ?_) (fun _ z => z)⟩
    refine fun v10 B7 H8 s9 m_state r11 => ?_
    replace r5 := r5.mono s9.ex
    replace st := st.go s9 (go1 (.inl (by simp)))
    replace w := s9.ok
    cases r11
    obtain ⟨p12, xs13, hv, hs14, hr15⟩ := Rep.sq w r5
    cases hv
    obtain ⟨x16, hx17, P⟩ := P.ix
    obtain ⟨u18, hu, r19⟩ := RepL.atE hr15 hx17
    refine h_ixL hs14 hu ?_
    cases r19
    refine h_nil ?_
    obtain ⟨gz20, P⟩ := P.guard
    have wj22 := w
    have sj21 := Stp.refl (W := [p_state]) w
    refine h_forR1 P gz20 (fun (a : Int × (List Int)) σ' H' => ∃ (B' : Hp) (o__law_k : Option V), Stp [p_state] B7 H8 B' H' ∧ σ' = [some ((.ref p_state)), some (.int a_few), some (.int a.1), o__law_k] ∧ Mu K B' H' p_state (a.2.map enc)) ⟨_, _, sj21, rfl, m_state⟩ ?_ ?_
    · rintro N23 T24 x29 a28 _ H33 ⟨B32, o35, s34, rfl, m_state⟩ hlox29 hhix29 kk25 kr26 kb27 P
      replace st := st.go s34 (go1 (.inl (by simp)))
      replace w := s34.ok
      have sj21 := s34
      refine h_gname ?_
      refine h_set1 ?_
      refine h_op ?_
      refine h_op ?_
      refine h_var rfl ?_
      refine h_op (h_c (h_c (h_pow (k := 100000) (by decide +kernel) (by decide +kernel) ?_)))
      refine h_I (.inr ⟨by decide +kernel, by decide +kernel⟩) ?_
      refine h_call ?_
      refine h_cons ?_
      refine h_var rfl ?_
      refine h_cons ?_
      refine h_op ?_
      refine h_op (h_c (h_c (h_pow (k := 100000) (by decide +kernel) (by decide +kernel) ?_)))
      refine h_c ?_
      refine h_I0 ?_
      refine h_nil ?_
      refine ⟨B32, p_state, a28.2, (100000 + 3), w, rfl, m_state, (P.bind).mono (fun x36 P => ?_) (fun _ z => z)⟩
      refine fun v40 B37 H38 s39 m_state r41 => ?_
      replace st := st.go s39 (go1 (.inl (by simp)))
      replace sj21 := sj21.go s39 (go1 (.inl (by simp)))
      replace w := s39.ok
      cases r41
      refine h_I0 ?_
      replace P := P.lt
      generalize hx : ((a28.1 * 100000) + x36.1) = x42 at P ⊢
      refine h_nx ?_
      exact kk25 (x42, x36.2) _ _ ⟨_, _, sj21, rfl, m_state⟩ P.ok
    · rintro a43 _ H45 ⟨B44, o47, s46, rfl, m_state⟩ P
      replace st := st.go s46 (go1 (.inl (by simp)))
      replace w := s46.ok
      refine h_nx ?_
      refine h_ret ?_
      refine h_var rfl ?_
      exact P.ok _ _ _ st m_state (Rep.int _)
theorem ok__law_shared {f : Addr} {fd : FuncData}  (F : Fun K "_law_shared" "_law_shared" s__law_shared f fd) (bI_abs : mg "abs" = none) : FnOk Pr wo K mg base CX0 1 f fd ["_law_left", "_law_right"] (sp__law_shared K) := by
  refine F.ok sc__law_shared (fun vs H Q E h => ?_) (fun cdv A outer s H0 vs Q E hr h => ?_)
  · obtain ⟨_, _, _, _, rfl, _⟩ := h; rfl
  · obtain ⟨B0, a_left, a_right, w, rfl, P⟩ := h
    have w0 := w
    have hu := hu_of hr
    have hu64 := hu64_of hr
    refine ⟨_, (pss_cons (ps_set (i := 0) sc__law_shared.nd rfl (by first | exact Or.inl rfl | exact Or.inr rfl) (pe_callB cr_abs (by rfl) bI_abs PyProof.Rows.boot_abs (pa_cons (pv 0) pa_nil)))
      (pss_cons (ps_set (i := 1) sc__law_shared.nd rfl (by first | exact Or.inl rfl | exact Or.inr rfl) (pe_callB cr_abs (by rfl) bI_abs PyProof.Rows.boot_abs (pa_cons (pv 1) pa_nil)))
      (pss_cons (ps_while PassesOwn.never (pt_cmpR op_gt (pv 1) pe_int (nomark _)) (pss_one (ps_par rfl sc__law_shared.nd (i := 0) (j := 1) rfl rfl (by decide) rfl rfl (pa_cons (pv 1) (pa_cons (pe_op op_mod (pv 0) (pv 1)) pa_nil)) rfl)))
      (pss_one (ps_ret (pv 0)))))), ?_⟩
    unfold l_shared at P
    have st := Stp.refl (W := []) w
    refine h_set ?_
    refine h_cb ?_
    refine h_cons ?_
    refine h_var rfl ?_
    refine h_nil ?_
    refine h_abs ?_
    replace P := P.lt
    generalize hx : (absI a_left) = x1 at P ⊢
    refine h_set ?_
    refine h_cb ?_
    refine h_cons ?_
    refine h_var rfl ?_
    refine h_nil ?_
    refine h_abs ?_
    replace P := P.lt
    generalize hx : (absI a_right) = x2 at P ⊢
    refine h_seq ?_
    have wj4 := w
    have sj3 := Stp.refl (W := []) w
    refine h_while P (fun (a : Int × Int) σ' H' => ∃ (B' : Hp), Stp [] B0 H0 B' H' ∧ σ' = [some (.int a.1), some (.int a.2)]) ⟨_, sj3, rfl⟩ ?_ ?_
    · rintro N5 C6 T7 a12 _ H14 ⟨B13, s15, rfl⟩ kn8 kk9 kr10 kb11 P
      replace st := st.go s15 go0
      replace w := s15.ok
      have sj3 := s15
      refine h_test ?_
      refine h_op ?_
      refine h_var rfl ?_
      refine h_c ?_
      refine h_I0 ?_
      refine h_bl ?_
      refine h_ite (fun c1 => ?_) (fun c1 => ?_)
      · replace P := P.iteT c1
        refine ⟨N5, kn8, ?_⟩
        refine h_par ?_
        refine h_cons ?_
        refine h_var rfl ?_
        refine h_cons ?_
        refine h_op ?_
        refine h_var rfl ?_
        refine h_var rfl ?_
        obtain ⟨gd, P⟩ := P.guard
        refine h_I gd ?_
        refine h_nil ?_
        refine h_two ?_
        replace P := P.lt
        generalize hx : (a12.1 % a12.2) = x16 at P ⊢
        refine h_nx ?_
        exact kk9 (a12.2, x16) _ _ ⟨_, sj3, rfl⟩ P.ok
      · replace P := P.iteF c1
        exact kb11 (a12.1, a12.2) _ _ ⟨_, sj3, rfl⟩ P.ok
    · rintro a17 _ H19 ⟨B18, s20, rfl⟩ P
      replace st := st.go s20 go0
      replace w := s20.ok
      refine h_nx ?_
      refine h_ret ?_
      refine h_var rfl ?_
      exact P.ok _ _ _ st (Rep.int _)
theorem ok__law_lowest {f : Addr} {fd : FuncData}  (F : Fun K "_law_lowest" "_law_lowest" s__law_lowest f fd) {f__law_shared : Addr} {d__law_shared : FuncData} (g__law_shared : mg "_law_shared" = some (.ref f__law_shared)) (k__law_shared : PySem.W.keepIn K (.ref f__law_shared) = true) (b__law_shared : L2.Binds K d__law_shared ["_law_left", "_law_right"] []) (G__law_shared : FnOk Pr wo K mg base CX0 1 f__law_shared d__law_shared ["_law_left", "_law_right"] (sp__law_shared K)) : FnOk Pr wo K mg base CX0 2 f fd ["_law_top", "_law_bottom"] (sp__law_lowest K) := by
  refine F.ok sc__law_lowest (fun vs H Q E h => ?_) (fun cdv A outer s H0 vs Q E hr h => ?_)
  · obtain ⟨_, _, _, _, rfl, _⟩ := h; rfl
  · obtain ⟨B0, a_top, a_bottom, w, rfl, P⟩ := h
    have w0 := w
    have hu := hu_of hr
    have hu64 := hu64_of hr
    have hr1 : Room 1 _ := hr.mono (by decide)
    refine ⟨_, (pss_cons (ps_set (i := 2) sc__law_lowest.nd rfl (by first | exact Or.inl rfl | exact Or.inr rfl) (pe_call G__law_shared hr1 rfl g__law_shared k__law_shared b__law_shared .nil pass0 (pa_cons (pv 0) (pa_cons (pv 1) pa_nil))))
      (pss_cons (ps_if (pt_cmpR op_lt (pv 1) pe_int (nomark _)) (pss_one (ps_set (i := 2) sc__law_lowest.nd rfl (by first | exact Or.inl rfl | exact Or.inr rfl) (pe_op op_sub pe_int (pv 2)))) pss_nil)
      (pss_one (ps_ret (pe_tup (pa_cons (pe_op op_fdivZ (pv 0) (pv 2)) (pa_cons (pe_op op_fdivZ (pv 1) (pv 2)) pa_nil))))))), ?_⟩
    unfold l_lowest at P
    have st := Stp.refl (W := []) w
    refine h_set ?_
    refine h_call ?_
    refine h_cons ?_
    refine h_var rfl ?_
    refine h_cons ?_
    refine h_var rfl ?_
    refine h_nil ?_
    refine ⟨B0, a_top, a_bottom, w, rfl, (P.bind).mono (fun x1 P => ?_) (fun _ z => z)⟩
    refine fun v5 B2 H3 s4 r6 => ?_
    replace st := st.go s4 go0
    replace w := s4.ok
    cases r6
    have wj8 := w
    have sj7 := Stp.refl (W := []) w
    refine h_joinS P (fun (a : Int) σ' H' => ∃ (B' : Hp), Stp [] B2 H3 B' H' ∧ σ' = [some (.int a_top), some (.int a_bottom), some (.int a)]) (fun N kk9 P => h_if ?_) ?_
    · skip
      refine h_test ?_
      refine h_op ?_
      refine h_var rfl ?_
      refine h_c ?_
      refine h_I0 ?_
      refine h_bl ?_
      refine h_ite (fun c1 => ?_) (fun c1 => ?_)
      · replace P := P.iteT c1
        refine h_set1 ?_
        refine h_op ?_
        refine h_c ?_
        refine h_var rfl ?_
        refine h_I0 ?_
        replace P := P.lt
        generalize hx : (0 - x1) = x10 at P ⊢
        refine h_nx ?_
        exact kk9 x10 _ _ ⟨_, sj7, rfl⟩ P.ok
      · replace P := P.iteF c1
        refine h_next ?_
        refine h_nx ?_
        exact kk9 x1 _ _ ⟨_, sj7, rfl⟩ P.ok
    rintro a11 _ H13 ⟨B12, s14, rfl⟩ P
    replace st := st.go s14 go0
    replace w := s14.ok
    refine h_ret ?_
    refine h_tup ?_
    refine h_cons ?_
    refine h_op ?_
    refine h_var rfl ?_
    refine h_var rfl ?_
    obtain ⟨gd, P⟩ := P.guard
    refine h_I gd ?_
    refine h_cons ?_
    refine h_op ?_
    refine h_var rfl ?_
    refine h_var rfl ?_
    obtain ⟨gd, P⟩ := P.guard
    refine h_I gd ?_
    refine h_nil ?_
    refine h_newT w (K := K) (.cons (Rep.int _) (.cons (Rep.int _) .nil)) (fun p15 B16 H17 s18 r19 => ?_) (by show 2 ≤ sizeLine; decide)
    replace st := st.go s18 go0
    replace w := s18.ok
    replace r19 : Rep K B16 (.ref p15) (enc (⟨(Int.fdiv a_top a11), (Int.fdiv a_bottom a11)⟩ : (Tp2 Int Int))) := r19
    exact P.ok _ _ _ st r19
theorem ok__law_drawn {f : Addr} {fd : FuncData}  (F : Fun K "_law_drawn" "_law_drawn" s__law_drawn f fd) {f__law_lowest : Addr} {d__law_lowest : FuncData} (g__law_lowest : mg "_law_lowest" = some (.ref f__law_lowest)) (k__law_lowest : PySem.W.keepIn K (.ref f__law_lowest) = true) (b__law_lowest : L2.Binds K d__law_lowest ["_law_top", "_law_bottom"] []) (G__law_lowest : FnOk Pr wo K mg base CX0 2 f__law_lowest d__law_lowest ["_law_top", "_law_bottom"] (sp__law_lowest K)) {f__law_great : Addr} {d__law_great : FuncData} (g__law_great : mg "_law_great" = some (.ref f__law_great)) (k__law_great : PySem.W.keepIn K (.ref f__law_great) = true) (b__law_great : L2.Binds K d__law_great ["_law_state", "_law_few"] []) (G__law_great : FnOk Pr wo K mg base CX0 2 f__law_great d__law_great ["_law_state", "_law_few"] (sp__law_great K)) {f__law_digit : Addr} {d__law_digit : FuncData} (g__law_digit : mg "_law_digit" = some (.ref f__law_digit)) (k__law_digit : PySem.W.keepIn K (.ref f__law_digit) = true) (b__law_digit : L2.Binds K d__law_digit ["_law_state", "_law_base"] []) (G__law_digit : FnOk Pr wo K mg base CX0 1 f__law_digit d__law_digit ["_law_state", "_law_base"] (sp__law_digit K)) : FnOk Pr wo K mg base CX0 3 f fd ["_law_state"] (sp__law_drawn K) := by
  refine F.ok sc__law_drawn (fun vs H Q E h => ?_) (fun cdv A outer s H0 vs Q E hr h => ?_)
  · obtain ⟨_, _, _, _, rfl, _⟩ := h; rfl
  · obtain ⟨B0, p_state, a_state, w, rfl, m_state, P⟩ := h
    have w0 := w
    have hu := hu_of hr
    have hu64 := hu64_of hr
    have hr1 : Room 1 _ := hr.mono (by decide)
    have hr2 : Room 2 _ := hr.mono (by decide)
    refine ⟨_, (pss_cons (ps_set (i := 1) sc__law_drawn.nd rfl (by first | exact Or.inl rfl | exact Or.inr rfl) (pe_op op_mulW (pe_ix (r := rIxL K) ix_list (pe_lst (pa_cons pe_int (pa_cons (pe_un un_neg pe_int) (pa_cons pe_int pa_nil)))) (pe_call G__law_digit hr1 rfl g__law_digit k__law_digit b__law_digit .nil pass0 (pa_cons (pv 0) (pa_cons pe_int pa_nil))) (fun _ _ => rfl)) (pe_call G__law_great hr2 rfl g__law_great k__law_great b__law_great .nil pass0 (pa_cons (pv 0) (pa_cons pe_int pa_nil)))))
      (pss_one (ps_ret (pe_call G__law_lowest hr2 rfl g__law_lowest k__law_lowest b__law_lowest .nil pass0 (pa_cons (pe_ix (r := rIxL K) ix_list (pe_lst (pa_cons (pv 1) (pa_cons (pe_call G__law_digit hr1 rfl g__law_digit k__law_digit b__law_digit .nil pass0 (pa_cons (pv 0) (pa_cons pe_int pa_nil))) pa_nil))) (pe_op op_fdiv (pe_call G__law_digit hr1 rfl g__law_digit k__law_digit b__law_digit .nil pass0 (pa_cons (pv 0) (pa_cons pe_int pa_nil))) pe_int) (fun _ _ => rfl)) (pa_cons (pe_op op_add pe_int (pe_call G__law_great hr2 rfl g__law_great k__law_great b__law_great .nil pass0 (pa_cons (pv 0) (pa_cons pe_int pa_nil)))) pa_nil)))))), ?_⟩
    unfold l_drawn at P
    have st := Stp.refl (W := [p_state]) w
    refine h_set ?_
    refine h_op ?_
    refine h_op ?_
    refine h_lst ?_
    refine h_cons ?_
    refine h_c ?_
    refine h_cons ?_
    refine h_un ?_
    refine h_c ?_
    refine h_U ?_
    refine h_cons ?_
    refine h_c ?_
    refine h_nil ?_
    refine h_newL w (ds := (([1, (-1), 0] : List Int)).map enc) (K := K) (.cons (Rep.int _) (.cons (Rep.int _) (.cons (Rep.int _) .nil))) (fun p1 B2 H3 s4 r5 => ?_) (by show 3 ≤ sizeLine; decide)
    replace m_state := m_state.step s4 nm0
    replace st := st.go s4 go0
    replace w := s4.ok
    replace r5 : Rep K B2 (.ref p1) (enc ([1, (-1), 0] : List Int)) := r5
    refine h_call ?_
    refine h_cons ?_
    refine h_var rfl ?_
    refine h_cons ?_
    refine h_c ?_
    refine h_nil ?_
    refine ⟨B2, p_state, a_state, 3, w, rfl, m_state, (P.bind).mono (fun x6 P => ?_) (fun _ z => z)⟩
    refine fun v10 B7 H8 s9 m_state r11 => ?_
    replace r5 := r5.mono s9.ex
    replace st := st.go s9 (go1 (.inl (by simp)))
    replace w := s9.ok
    cases r11
    obtain ⟨p12, xs13, hv, hs14, hr15⟩ := Rep.sq w r5
    cases hv
    obtain ⟨x16, hx17, P⟩ := P.ix
    obtain ⟨u18, hu, r19⟩ := RepL.atE hr15 hx17
    refine h_ixL hs14 hu ?_
    cases r19
    refine h_call ?_
    refine h_cons ?_
    refine h_var rfl ?_
    refine h_cons ?_
    refine h_c ?_
    refine h_nil ?_
    refine ⟨B7, p_state, x6.2, 4, w, rfl, m_state, (P.bind).mono (fun x20 P => ?_) (fun _ z => z)⟩
    refine fun v24 B21 H22 s23 m_state r25 => ?_
    replace st := st.go s23 (go1 (.inl (by simp)))
    replace w := s23.ok
    cases r25
    obtain ⟨gd, P⟩ := P.guard
    refine h_I gd ?_
    replace P := P.lt
    generalize hx : (x16 * x20.1) = x26 at P ⊢
    refine h_ret ?_
    refine h_call ?_
    refine h_cons ?_
    refine h_op ?_
    refine h_lst ?_
    refine h_cons ?_
    refine h_var rfl ?_
    refine h_cons ?_
    refine h_call ?_
    refine h_cons ?_
    refine h_var rfl ?_
    refine h_cons ?_
    refine h_c ?_
    refine h_nil ?_
    refine ⟨B21, p_state, x20.2, 9, w, rfl, m_state, (P.bind).mono (fun x27 P => ?_) (fun _ z => z)⟩
    refine fun v31 B28 H29 s30 m_state r32 => ?_
    replace st := st.go s30 (go1 (.inl (by simp)))
    replace w := s30.ok
    cases r32
    refine h_nil ?_
    refine h_newL w (ds := (([x26, x27.1] : List Int)).map enc) (K := K) (.cons (Rep.int _) (.cons (Rep.int _) .nil)) (fun p33 B34 H35 s36 r37 => ?_) (by show 2 ≤ sizeLine; decide)
    replace m_state := m_state.step s36 nm0
    replace st := st.go s36 go0
    replace w := s36.ok
    replace r37 : Rep K B34 (.ref p33) (enc ([x26, x27.1] : List Int)) := r37
    refine h_op ?_
    refine h_call ?_
    refine h_cons ?_
    refine h_var rfl ?_
    refine h_cons ?_
    refine h_c ?_
    refine h_nil ?_
    refine ⟨B34, p_state, x27.2, 3, w, rfl, m_state, (P.bind).mono (fun x38 P => ?_) (fun _ z => z)⟩
    refine fun v42 B39 H40 s41 m_state r43 => ?_
    replace r37 := r37.mono s41.ex
    replace st := st.go s41 (go1 (.inl (by simp)))
    replace w := s41.ok
    cases r43
    refine h_c ?_
    refine h_I ⟨by decide +kernel, by decide +kernel⟩ ?_
    obtain ⟨p44, xs45, hv, hs46, hr47⟩ := Rep.sq w r37
    cases hv
    obtain ⟨x48, hx49, P⟩ := P.ix
    obtain ⟨u50, hu, r51⟩ := RepL.atE hr47 hx49
    refine h_ixL hs46 hu ?_
    cases r51
    refine h_cons ?_
    refine h_op ?_
    refine h_c ?_
    refine h_call ?_
    refine h_cons ?_
    refine h_var rfl ?_
    refine h_cons ?_
    refine h_c ?_
    refine h_nil ?_
    refine ⟨B39, p_state, x38.2, 4, w, rfl, m_state, (P.bind).mono (fun x52 P => ?_) (fun _ z => z)⟩
    refine fun v56 B53 H54 s55 m_state r57 => ?_
    replace st := st.go s55 (go1 (.inl (by simp)))
    replace w := s55.ok
    cases r57
    refine h_I0 ?_
    refine h_nil ?_
    refine ⟨B53, x48, (1 + x52.1), w, rfl, (P.bind).mono (fun x58 P => ?_) (fun _ z => z)⟩
    refine fun v62 B59 H60 s61 r63 => ?_
    replace m_state := m_state.step s61 nm0
    replace st := st.go s61 go0
    replace w := s61.ok
    exact P.ok _ _ _ st m_state r63
theorem ok__law_second {f : Addr} {fd : FuncData}  (F : Fun K "_law_second" "_law_second" s__law_second f fd) {f__law_drawn : Addr} {d__law_drawn : FuncData} (g__law_drawn : mg "_law_drawn" = some (.ref f__law_drawn)) (k__law_drawn : PySem.W.keepIn K (.ref f__law_drawn) = true) (b__law_drawn : L2.Binds K d__law_drawn ["_law_state"] []) (G__law_drawn : FnOk Pr wo K mg base CX0 3 f__law_drawn d__law_drawn ["_law_state"] (sp__law_drawn K)) {f__law_digit : Addr} {d__law_digit : FuncData} (g__law_digit : mg "_law_digit" = some (.ref f__law_digit)) (k__law_digit : PySem.W.keepIn K (.ref f__law_digit) = true) (b__law_digit : L2.Binds K d__law_digit ["_law_state", "_law_base"] []) (G__law_digit : FnOk Pr wo K mg base CX0 1 f__law_digit d__law_digit ["_law_state", "_law_base"] (sp__law_digit K)) {f__law_lowest : Addr} {d__law_lowest : FuncData} (g__law_lowest : mg "_law_lowest" = some (.ref f__law_lowest)) (k__law_lowest : PySem.W.keepIn K (.ref f__law_lowest) = true) (b__law_lowest : L2.Binds K d__law_lowest ["_law_top", "_law_bottom"] []) (G__law_lowest : FnOk Pr wo K mg base CX0 2 f__law_lowest d__law_lowest ["_law_top", "_law_bottom"] (sp__law_lowest K)) : FnOk Pr wo K mg base CX0 4 f fd ["_law_state", "_law_left"] (sp__law_second K) := by
  refine F.ok sc__law_second (fun vs H Q E h => ?_) (fun cdv A outer s H0 vs Q E hr h => ?_)
  · obtain ⟨_, _, _, _, _, _, rfl, _⟩ := h; rfl
  · obtain ⟨B0, p_state, a_state, v_left, a_left, w, rfl, m_state, r_left, P⟩ := h
    have w0 := w
    have hu := hu_of hr
    have hu64 := hu64_of hr
    have hr1 : Room 1 _ := hr.mono (by decide)
    have hr2 : Room 2 _ := hr.mono (by decide)
    have hr3 : Room 3 _ := hr.mono (by decide)
    refine ⟨_, (pss_cons (ps_set (i := 2) sc__law_second.nd rfl (by first | exact Or.inl rfl | exact Or.inr rfl) (pe_call G__law_drawn hr3 rfl g__law_drawn k__law_drawn b__law_drawn .nil pass0 (pa_cons (pv 0) pa_nil)))
      (pss_cons (ps_set (i := 3) sc__law_second.nd rfl (by first | exact Or.inl rfl | exact Or.inr rfl) (pe_call G__law_digit hr1 rfl g__law_digit k__law_digit b__law_digit .nil pass0 (pa_cons (pv 0) (pa_cons pe_int pa_nil))))
      (pss_cons (ps_if (pt_cmpR op_eq (pv 3) pe_int (nomark _)) (pss_one (ps_ret (pv 1))) pss_nil)
      (pss_cons (ps_if (pt_cmpR op_eq (pv 3) pe_int (nomark _)) (pss_one (ps_ret (pe_tup (pa_cons (pe_op op_sub pe_int (pe_ix (r := rIxT K) ix_tup (pv 1) pe_int (fun _ _ => rfl))) (pa_cons (pe_ix (r := rIxT K) ix_tup (pv 1) pe_int (fun _ _ => rfl)) pa_nil))))) pss_nil)
      (pss_cons (ps_if (PW.pt (pw_and (pt_cmpR op_eq (pv 3) pe_int (nomark _)) (pw_and1 (pt_cmpR op_ne (pe_ix (r := rIxT K) ix_tup (pv 1) pe_int (fun _ _ => rfl)) pe_int (nomark _))))) (pss_one (ps_ret (pe_call G__law_lowest hr2 rfl g__law_lowest k__law_lowest b__law_lowest .nil pass0 (pa_cons (pe_ix (r := rIxT K) ix_tup (pv 1) pe_int (fun _ _ => rfl)) (pa_cons (pe_ix (r := rIxT K) ix_tup (pv 1) pe_int (fun _ _ => rfl)) pa_nil))))) pss_nil)
      (pss_cons (ps_if (pt_cmpR op_eq (pv 3) pe_int (nomark _)) (pss_one (ps_ret (pe_call G__law_lowest hr2 rfl g__law_lowest k__law_lowest b__law_lowest .nil pass0 (pa_cons (pe_ix (r := rIxT K) ix_tup (pv 2) pe_int (fun _ _ => rfl)) (pa_cons (pe_ix (r := rIxT K) ix_tup (pv 1) pe_int (fun _ _ => rfl)) pa_nil))))) pss_nil)
      (pss_one (ps_ret (pv 2))))))))), ?_⟩
    unfold l_second at P
    have st := Stp.refl (W := [p_state]) w
    refine h_set ?_
    refine h_call ?_
    refine h_cons ?_
    refine h_var rfl ?_
    refine h_nil ?_
    refine ⟨B0, p_state, a_state, w, rfl, m_state, (P.bind).mono (fun x1 P => ?_) (fun _ z => z)⟩
    refine fun v5 B2 H3 s4 m_state r6 => ?_
    replace st := st.go s4 (go1 (.inl (by simp)))
    replace w := s4.ok
    refine h_set ?_
    refine h_call ?_
    refine h_cons ?_
    refine h_var rfl ?_
    refine h_cons ?_
    refine h_c ?_
    refine h_nil ?_
    refine ⟨B2, p_state, x1.2, 8, w, rfl, m_state, (P.bind).mono (fun x7 P => ?_) (fun _ z => z)⟩
    refine fun v11 B8 H9 s10 m_state r12 => ?_
    replace r6 := r6.mono s10.ex
    replace st := st.go s10 (go1 (.inl (by simp)))
    replace w := s10.ok
    cases r12
    refine h_seq <| h_if ?_
    refine h_test ?_
    refine h_op ?_
    refine h_var rfl ?_
    refine h_c ?_
    refine h_eqI ?_
    refine h_bl ?_
    refine h_ite (fun c1 => ?_) (fun c1 => ?_)
    · replace P := P.iteT c1
      refine h_ret ?_
      refine h_var rfl ?_
      exact P.ok _ _ _ st m_state (r_left.mono st.ex)
    · replace P := P.iteF c1
      refine h_next ?_
      refine h_nx ?_
      refine h_seq <| h_if ?_
      refine h_test ?_
      refine h_op ?_
      refine h_var rfl ?_
      refine h_c ?_
      refine h_eqI ?_
      refine h_bl ?_
      refine h_ite (fun c1 => ?_) (fun c1 => ?_)
      · replace P := P.iteT c1
        refine h_ret ?_
        refine h_tup ?_
        refine h_cons ?_
        refine h_op ?_
        refine h_c ?_
        refine h_op ?_
        refine h_var rfl ?_
        refine h_c ?_
        obtain ⟨p13, xs14, rfl, hs15, hr16⟩ := Rep.st w (r_left.mono st.ex)
        obtain ⟨u17, hu, r18⟩ := RepL.at hr16 (i := 0) rfl
        refine h_ixT hs15 hu ?_
        cases r18
        refine h_I0 ?_
        refine h_cons ?_
        refine h_op ?_
        refine h_var rfl ?_
        refine h_c ?_
        obtain ⟨p19, xs20, hv, hs21, hr22⟩ := Rep.st w (r_left.mono st.ex)
        cases hv
        obtain ⟨u23, hu, r24⟩ := RepL.at hr22 (i := 1) rfl
        refine h_ixT hs21 hu ?_
        cases r24
        refine h_nil ?_
        refine h_newT w (K := K) (.cons (Rep.int _) (.cons (Rep.int _) .nil)) (fun p25 B26 H27 s28 r29 => ?_) (by show 2 ≤ sizeLine; decide)
        replace m_state := m_state.step s28 nm0
        replace r6 := r6.mono s28.ex
        replace st := st.go s28 go0
        replace w := s28.ok
        replace r29 : Rep K B26 (.ref p25) (enc (⟨(0 - a_left.a), a_left.b⟩ : (Tp2 Int Int))) := r29
        exact P.ok _ _ _ st m_state r29
      · replace P := P.iteF c1
        refine h_next ?_
        refine h_nx ?_
        refine h_seq <| h_if ?_
        have wj31 := w
        have sj30 := Stp.refl (W := []) w
        refine h_condJ P (fun H' => ∃ B', Stp [] B8 H9 B' H') (fun N kk32 P => ?_) ?_
        · skip
          refine h_tand ?_
          refine h_test ?_
          refine h_op ?_
          refine h_var rfl ?_
          refine h_c ?_
          refine h_eqI ?_
          refine h_bl ?_
          refine h_ite (fun c1 => ?_) (fun c1 => ?_)
          · replace P := P.iteT c1
            refine h_test ?_
            refine h_op ?_
            refine h_op ?_
            refine h_var rfl ?_
            refine h_c ?_
            obtain ⟨p33, xs34, rfl, hs35, hr36⟩ := Rep.st w (r_left.mono st.ex)
            obtain ⟨u37, hu, r38⟩ := RepL.at hr36 (i := 0) rfl
            refine h_ixT hs35 hu ?_
            cases r38
            refine h_c ?_
            refine h_neI ?_
            refine h_bl ?_
            exact kk32 _ _ ⟨_, sj30⟩ P.ok
          · replace P := P.iteF c1
            exact kk32 _ _ ⟨_, sj30⟩ P.ok
        rintro b39 H41 ⟨B40, s42⟩ P
        replace m_state := m_state.step s42 nm0
        replace r6 := r6.mono s42.ex
        replace st := st.go s42 go0
        replace w := s42.ok
        refine h_ite (fun c1 => ?_) (fun c1 => ?_)
        · replace P := P.iteT c1
          refine h_ret ?_
          refine h_call ?_
          refine h_cons ?_
          refine h_op ?_
          refine h_var rfl ?_
          refine h_c ?_
          obtain ⟨p43, xs44, rfl, hs45, hr46⟩ := Rep.st w (r_left.mono st.ex)
          obtain ⟨u47, hu, r48⟩ := RepL.at hr46 (i := 1) rfl
          refine h_ixT hs45 hu ?_
          cases r48
          refine h_cons ?_
          refine h_op ?_
          refine h_var rfl ?_
          refine h_c ?_
          obtain ⟨p49, xs50, hv, hs51, hr52⟩ := Rep.st w (r_left.mono st.ex)
          cases hv
          obtain ⟨u53, hu, r54⟩ := RepL.at hr52 (i := 0) rfl
          refine h_ixT hs51 hu ?_
          cases r54
          refine h_nil ?_
          refine ⟨B40, a_left.b, a_left.a, w, rfl, (P.bind).mono (fun x55 P => ?_) (fun _ z => z)⟩
          refine fun v59 B56 H57 s58 r60 => ?_
          replace m_state := m_state.step s58 nm0
          replace r6 := r6.mono s58.ex
          replace st := st.go s58 go0
          replace w := s58.ok
          exact P.ok _ _ _ st m_state r60
        · replace P := P.iteF c1
          refine h_next ?_
          refine h_nx ?_
          refine h_seq <| h_if ?_
          refine h_test ?_
          refine h_op ?_
          refine h_var rfl ?_
          refine h_c ?_
          refine h_eqI ?_
          refine h_bl ?_
          refine h_ite (fun c1 => ?_) (fun c1 => ?_)
          · replace P := P.iteT c1
            refine h_ret ?_
            refine h_call ?_
            refine h_cons ?_
            refine h_op ?_
            refine h_var rfl ?_
            refine h_c ?_
            obtain ⟨p61, xs62, rfl, hs63, hr64⟩ := Rep.st w r6
            obtain ⟨u65, hu, r66⟩ := RepL.at hr64 (i := 0) rfl
            refine h_ixT hs63 hu ?_
            cases r66
            refine h_cons ?_
            refine h_op ?_
            refine h_var rfl ?_
            refine h_c ?_
            obtain ⟨p67, xs68, rfl, hs69, hr70⟩ := Rep.st w (r_left.mono st.ex)
            obtain ⟨u71, hu, r72⟩ := RepL.at hr70 (i := 1) rfl
            refine h_ixT hs69 hu ?_
            cases r72
            refine h_nil ?_
            refine ⟨B40, x1.1.a, a_left.b, w, rfl, (P.bind).mono (fun x73 P => ?_) (fun _ z => z)⟩
            refine fun v77 B74 H75 s76 r78 => ?_
            replace m_state := m_state.step s76 nm0
            replace r6 := r6.mono s76.ex
            replace st := st.go s76 go0
            replace w := s76.ok
            exact P.ok _ _ _ st m_state r78
          · replace P := P.iteF c1
            refine h_next ?_
            refine h_nx ?_
            refine h_ret ?_
            refine h_var rfl ?_
            exact P.ok _ _ _ st m_state r6
theorem ok__law_alike {f : Addr} {fd : FuncData}  (F : Fun K "_law_alike" "_law_alike" s__law_alike f fd) {f__law_lowest : Addr} {d__law_lowest : FuncData} (g__law_lowest : mg "_law_lowest" = some (.ref f__law_lowest)) (k__law_lowest : PySem.W.keepIn K (.ref f__law_lowest) = true) (b__law_lowest : L2.Binds K d__law_lowest ["_law_top", "_law_bottom"] []) (G__law_lowest : FnOk Pr wo K mg base CX0 2 f__law_lowest d__law_lowest ["_law_top", "_law_bottom"] (sp__law_lowest K)) (bI_isinstance : mg "isinstance" = none) (bI_tuple : mg "tuple" = none) (bI_len : mg "len" = none) (bI_bool : mg "bool" = none) (bI_int : mg "int" = none) : FnOk Pr wo K mg base CX0 3 f fd ["_law_found", "_law_top", "_law_bottom"] (sp__law_alike K) := by
  refine F.ok sc__law_alike (fun vs H Q E h => ?_) (fun cdv A outer s H0 vs Q E hr h => ?_)
  · obtain ⟨_, _, _, _, _, _, rfl, _⟩ := h; rfl
  · obtain ⟨B0, v_found, a_found, a_top, a_bottom, w, rfl, r_found, P⟩ := h
    have w0 := w
    have hu := hu_of hr
    have hu64 := hu64_of hr
    have hr2 : Room 2 _ := hr.mono (by decide)
    refine ⟨_, (pss_cons (ps_if (PW.pt (pw_or (pt_not (pt_val (pe_callB (r := rIsi K) call_isi (by rfl) bI_isinstance PyProof.Rows.boot_isinstance (pa_cons (pv 0) (pa_cons (pe_bltn (v := .ty "tuple") (by rfl) bI_tuple Y.boot_tuple rfl) pa_nil))))) (pw_or1 (pt_cmpR op_ne (pe_callB (r := rLenY K) cr_len (by rfl) bI_len PySem.boot_len (pa_cons (pv 0) pa_nil)) pe_int (nomark _))))) (pss_one (ps_ret pe_bl)) pss_nil)
      (pss_cons (ps_for PassesOwn.never rfl (pi_tup (pv 0)) (pg_name (i := 3) sc__law_alike.nd rfl (by first | exact Or.inl rfl | exact Or.inr rfl)) (pss_one (ps_if (PW.pt (pw_or (pt_not (pt_val (pe_callB (r := rIsi K) call_isi (by rfl) bI_isinstance PyProof.Rows.boot_isinstance (pa_cons (pv 3) (pa_cons (pe_bltn (v := .ty "int") (by rfl) bI_int Y.boot_int rfl) pa_nil))))) (pw_or1 (pt_val (pe_callB (r := rIsi K) call_isi (by rfl) bI_isinstance PyProof.Rows.boot_isinstance (pa_cons (pv 3) (pa_cons (pe_bltn (v := .ty "bool") (by rfl) bI_bool Y.boot_bool rfl) pa_nil))))))) (pss_one (ps_ret pe_bl)) pss_nil)))
      (pss_one (ps_ret (pe_cmpR (r := rEqD K) (op_eqD hu64) (pv 0) (pe_call G__law_lowest hr2 rfl g__law_lowest k__law_lowest b__law_lowest .nil pass0 (pa_cons (pv 1) (pa_cons (pv 2) pa_nil))) (nomark _)))))), ?_⟩
    unfold l_alike at P
    have st := Stp.refl (W := []) w
    refine h_seq <| h_if ?_
    refine h_tor ?_
    refine h_tnot ?_
    refine h_tB ?_
    refine h_cb ?_
    refine h_cons ?_
    refine h_var rfl ?_
    refine h_cons ?_
    refine h_c ?_
    refine h_nil ?_
    refine isi (t := "tuple") w (r_found.mono st.ex) ?_
    refine h_bl ?_
    refine h_iteN (fun c1 => ?_) (fun c1 => ?_)
    · replace P := P.iteF c1
      refine h_iteT ?_
      refine h_ret ?_
      refine h_c ?_
      exact P.ok _ _ _ st (Rep.bl _)
    · replace P := P.iteT c1
      refine h_test ?_
      refine h_op ?_
      refine h_cb ?_
      refine h_cons ?_
      refine h_var rfl ?_
      refine h_nil ?_
      obtain ⟨l1, hl2, P⟩ := P.asT
      have rc3 := (r_found.mono st.ex)
      rw [hl2] at rc3
      obtain ⟨p4, xs5, rfl, hs6, hr7⟩ := Rep.st w rc3
      refine h_lenTl hs6 hr7 ?_
      refine h_c ?_
      refine h_neI ?_
      refine h_bl ?_
      refine h_ite (fun c1 => ?_) (fun c1 => ?_)
      · replace P := P.iteT c1
        refine h_ret ?_
        refine h_c ?_
        exact P.ok _ _ _ st (Rep.bl _)
      · replace P := P.iteF c1
        refine h_next ?_
        refine h_nx ?_
        refine h_seq ?_
        refine h_forTE ?_
        refine h_var rfl ?_
        obtain ⟨l9, hl10, P⟩ := P.asT
        have rc8 := (r_found.mono st.ex)
        rw [hl10] at rc8
        obtain ⟨p11, xs12, hv, hb13, hr14⟩ := Rep.stB rc8
        cases hv
        have wj16 := w
        have sj15 := Stp.refl (W := []) w
        refine h_forT P (w.t hb13) hr14 (fun (a : Unit) σ' H' => ∃ (B' : Hp) (o__law_number : Option V), Stp [] B0 H0 B' H' ∧ σ' = [some ((.ref p4)), some (.int a_top), some (.int a_bottom), o__law_number]) ⟨_, _, sj15, rfl⟩ (fun _ _ _ j => ?_) ?_ ?_
        · obtain ⟨B26, o29, s28, rfl⟩ := j
          exact s28.ok.t (s28.ex.t hb13)
        · rintro N17 T18 x23 v24 a22 _ H27 ⟨B26, o29, s28, rfl⟩ r25 kk19 kr20 kb21 P
          replace st := st.go s28 go0
          replace w := s28.ok
          have sj15 := s28
          replace r25 := r25.mono sj15.ex
          refine h_gname ?_
          refine h_if ?_
          refine h_tor ?_
          refine h_tnot ?_
          refine h_tB ?_
          refine h_cb ?_
          refine h_cons ?_
          refine h_var rfl ?_
          refine h_cons ?_
          refine h_c ?_
          refine h_nil ?_
          refine isi (t := "int") w r25 ?_
          refine h_bl ?_
          refine h_iteN (fun c1 => ?_) (fun c1 => ?_)
          · replace P := P.iteF c1
            refine h_iteT ?_
            refine h_ret ?_
            refine h_c ?_
            exact (kr20 _ P.ok) _ _ _ st (Rep.bl _)
          · replace P := P.iteT c1
            refine h_tB ?_
            refine h_cb ?_
            refine h_cons ?_
            refine h_var rfl ?_
            refine h_cons ?_
            refine h_c ?_
            refine h_nil ?_
            refine isi (t := "bool") w r25 ?_
            refine h_bl ?_
            refine h_ite (fun c1 => ?_) (fun c1 => ?_)
            · replace P := P.iteT c1
              refine h_ret ?_
              refine h_c ?_
              exact (kr20 _ P.ok) _ _ _ st (Rep.bl _)
            · replace P := P.iteF c1
              refine h_next ?_
              refine h_nx ?_
              exact kk19 () _ _ ⟨_, _, sj15, rfl⟩ P.ok
        · rintro a30 _ H32 ⟨B31, o34, s33, rfl⟩ P
          replace st := st.go s33 go0
          replace w := s33.ok
          refine h_nx ?_
          refine h_ret ?_
          refine h_op ?_
          refine h_var rfl ?_
          refine h_call ?_
          refine h_cons ?_
          refine h_var rfl ?_
          refine h_cons ?_
          refine h_var rfl ?_
          refine h_nil ?_
          refine ⟨B31, a_top, a_bottom, w, rfl, (P.bind).mono (fun x35 P => ?_) (fun _ z => z)⟩
          refine fun v39 B36 H37 s38 r40 => ?_
          replace st := st.go s38 go0
          replace w := s38.ok
          obtain ⟨gd, P⟩ := P.guard
          refine h_eqD (d := a_found) (e := (enc x35)) w (r_found.mono st.ex) r40 gd ?_
          exact P.ok _ _ _ st (Rep.bl _)
theorem ok__law_share_right {f : Addr} {fd : FuncData}  (F : Fun K "_law_share_right" "_law_share_right" s__law_share_right f fd) {C_ScrollError : Addr} (T_ScrollError : ExcR K mg "ScrollError" C_ScrollError) {C_NoFraction : Addr} (T_NoFraction : ExcR K mg "NoFraction" C_NoFraction) (p_NoFraction_NoFraction : PySem.W.subIn K (.ref C_NoFraction) (.ref C_NoFraction) = some true) (p_NoFraction_ScrollError : PySem.W.subIn K (.ref C_NoFraction) (.ref C_ScrollError) = some true) {f_shared : Addr} {d_shared : FuncData} (g_shared : mg "shared" = some (.ref f_shared)) (k_shared : PySem.W.keepIn K (.ref f_shared) = true) (b_shared : L2.Binds K d_shared ["one", "other"] []) (G_shared : FnOk Pr wo K mg base (L2.CX Pr wo) 3 f_shared d_shared ["one", "other"] (sp_shared K mg)) {f__law_alike : Addr} {d__law_alike : FuncData} (g__law_alike : mg "_law_alike" = some (.ref f__law_alike)) (k__law_alike : PySem.W.keepIn K (.ref f__law_alike) = true) (b__law_alike : L2.Binds K d__law_alike ["_law_found", "_law_top", "_law_bottom"] []) (G__law_alike : FnOk Pr wo K mg base CX0 3 f__law_alike d__law_alike ["_law_found", "_law_top", "_law_bottom"] (sp__law_alike K)) (bI_isinstance : mg "isinstance" = none) : FnOk Pr wo K mg base CX0 4 f fd ["_law_left", "_law_right"] (sp__law_share_right K) := by
  refine F.ok sc__law_share_right (fun vs H Q E h => ?_) (fun cdv A outer s H0 vs Q E hr h => ?_)
  · obtain ⟨_, _, _, _, _, _, rfl, _⟩ := h; rfl
  · obtain ⟨B0, v_left, a_left, v_right, a_right, w, rfl, r_left, r_right, P⟩ := h
    have w0 := w
    have hu := hu_of hr
    have hu64 := hu64_of hr
    have hr3 : Room 3 _ := hr.mono (by decide)
    refine ⟨_, (pss_cons (ps_set (i := 2) sc__law_share_right.nd rfl (by first | exact Or.inl rfl | exact Or.inr rfl) pe_bl)
      (pss_cons (ps_set (i := 3) sc__law_share_right.nd rfl (by first | exact Or.inl rfl | exact Or.inr rfl) pe_non)
      (pss_cons (ps_tryA (K := K) (Wout := fun _ _ _ _ => False) (i := 4) rfl rfl sc__law_share_right.nd rfl rfl (T_ScrollError.names rfl (by decide)) takes0 (fun W pn xe tk _ => (pss_one (ps_set (i := 3) sc__law_share_right.nd rfl (by first | exact Or.inl rfl | exact Or.inr rfl) (pe_callS G_shared hr3 rfl g_shared k_shared b_shared (fun σ => passAt tk σ) (pa_cons (pv 0) (pa_cons (pv 1) pa_nil)))))) (fun a oe cls d pn hz hf => (pss_one (ps_set (i := 2) sc__law_share_right.nd rfl (by first | exact Or.inl rfl | exact Or.inr rfl) (pe_isE (K := K) (a := a) (cls := cls) (d := d) rfl (fun Dc e1 e2 ec => by subst e1 e2; exact (pe_callB (r := rIsE K Dc a) (call_isE ec hz hf) (by rfl) bI_isinstance PyProof.Rows.boot_isinstance (pa_cons (pv 4) (pa_cons (pe_glob (v := .ref C_NoFraction) (by rfl) T_NoFraction.g rfl) pa_nil)))))))))
      (pss_cons (ps_if (pt_cmpR op_eq (pe_ix (r := rIxT K) ix_tup (pv 1) pe_int (fun _ _ => rfl)) pe_int (nomark _)) (pss_one (ps_ret (pe_and (pv 2) (pe_one (pe_cmpR op_isNn (pv 3) pe_non (nomark _)))))) pss_nil)
      (pss_one (ps_ret (pe_and (pe_not (pv 2)) (pe_one (pe_call G__law_alike hr3 rfl g__law_alike k__law_alike b__law_alike .nil pass0 (pa_cons (pv 3) (pa_cons (pe_op op_mulW (pe_ix (r := rIxT K) ix_tup (pv 0) pe_int (fun _ _ => rfl)) (pe_ix (r := rIxT K) ix_tup (pv 1) pe_int (fun _ _ => rfl))) (pa_cons (pe_op op_mulW (pe_ix (r := rIxT K) ix_tup (pv 0) pe_int (fun _ _ => rfl)) (pe_ix (r := rIxT K) ix_tup (pv 1) pe_int (fun _ _ => rfl))) pa_nil)))))))))))), ?_⟩
    unfold l_share_right at P
    have st := Stp.refl (W := []) w
    refine h_set ?_
    refine h_c ?_
    refine h_set ?_
    refine h_c ?_
    refine h_seq ?_
    have wj2 := w
    have sj1 := Stp.refl (W := []) w
    refine h_tryJ P (fun (a : (Option (Tp2 Int Int)) × Bool) σ' H' => ∃ (B' : Hp) (v0 : V) (o_e : Option V), Stp [] B0 H0 B' H' ∧ σ' = [some (v_left), some (v_right), some (.bl a.2), some v0, o_e] ∧ Rep K B' v0 (enc a.1)) (fun N3 T4 kk5 kr6 P => ?_) ?_
    · refine h_tryA ?_
      refine h_set1 ?_
      refine h_callS ?_
      refine h_cons ?_
      refine h_var rfl ?_
      refine h_cons ?_
      refine h_var rfl ?_
      refine h_nil ?_
      refine ⟨B0, v_left, a_left, v_right, a_right, w, rfl, (r_left.mono st.ex), (r_right.mono st.ex), Post.mono2 P.bind (fun e13 P => ?_) (fun x7 P => ?_)⟩
      · skip
        rintro C17 B14 H15 g s16
        replace st := st.go s16 go0
        replace sj1 := sj1.go s16 go0
        replace w := s16.ok
        obtain ⟨ec, ea⟩ := e13
        have he := P.guard.1
        replace P := P.guard.2
        obtain rfl : ec = "NoFraction" := List.mem_singleton.mp he
        obtain rfl : C_NoFraction = C17 := Value.ref.inj (Option.some.inj (T_NoFraction.g.symm.trans g))
        refine h_wAs T_ScrollError.toExcT p_NoFraction_ScrollError (fun ax18 haax18 => ?_)
        refine h_set1 ?_
        refine h_isE T_NoFraction.toExcT (h_cons (h_var rfl (h_cons (h_c (h_nil ?_)))))
        refine h_isER (T_NoFraction.kit p_NoFraction_NoFraction) ?_
        refine h_nx ?_
        exact kk5 (none, true) _ _ ⟨_, .non, _, sj1, rfl, Rep.non⟩ P.ok
      refine fun v11 B8 H9 s10 r12 => ?_
      replace st := st.go s10 go0
      replace sj1 := sj1.go s10 go0
      replace w := s10.ok
      refine h_nx ?_
      exact kk5 ((some x7), false) _ _ ⟨_, v11, _, sj1, rfl, r12⟩ P.ok
    · rintro a19 _ H21 ⟨B20, v23, o25, s22, rfl, r24⟩ P
      replace st := st.go s22 go0
      replace w := s22.ok
      refine h_nx ?_
      refine h_seq <| h_if ?_
      refine h_test ?_
      refine h_op ?_
      refine h_op ?_
      refine h_var rfl ?_
      refine h_c ?_
      obtain ⟨p26, xs27, rfl, hs28, hr29⟩ := Rep.st w (r_right.mono st.ex)
      obtain ⟨u30, hu, r31⟩ := RepL.at hr29 (i := 0) rfl
      refine h_ixT hs28 hu ?_
      cases r31
      refine h_c ?_
      refine h_eqI ?_
      refine h_bl ?_
      refine h_ite (fun c1 => ?_) (fun c1 => ?_)
      · replace P := P.iteT c1
        refine h_ret ?_
        refine h_and ?_
        refine h_var rfl ?_
        refine h_bl ?_
        refine h_ite (fun c1 => ?_) (fun c1 => ?_)
        · replace P := P.iteT c1
          refine h_op ?_
          refine h_var rfl ?_
          refine h_c ?_
          refine h_isN r24 ?_
          exact P.ok _ _ _ st (Rep.bl _)
        · replace P := P.iteF c1
          exact P.ok _ _ _ st (Rep.bl _)
      · replace P := P.iteF c1
        refine h_next ?_
        refine h_nx ?_
        refine h_ret ?_
        refine h_and ?_
        refine h_not ?_
        refine h_var rfl ?_
        refine h_bl ?_
        refine h_bl ?_
        refine h_ite (fun c1 => ?_) (fun c1 => ?_)
        · replace P := P.iteT c1
          refine h_call ?_
          refine h_cons ?_
          refine h_var rfl ?_
          refine h_cons ?_
          refine h_op ?_
          refine h_op ?_
          refine h_var rfl ?_
          refine h_c ?_
          obtain ⟨p32, xs33, rfl, hs34, hr35⟩ := Rep.st w (r_left.mono st.ex)
          obtain ⟨u36, hu, r37⟩ := RepL.at hr35 (i := 0) rfl
          refine h_ixT hs34 hu ?_
          cases r37
          refine h_op ?_
          refine h_var rfl ?_
          refine h_c ?_
          obtain ⟨p38, xs39, hv, hs40, hr41⟩ := Rep.st w (r_right.mono st.ex)
          cases hv
          obtain ⟨u42, hu, r43⟩ := RepL.at hr41 (i := 1) rfl
          refine h_ixT hs40 hu ?_
          cases r43
          obtain ⟨gd, P⟩ := P.guard
          refine h_I gd ?_
          refine h_cons ?_
          refine h_op ?_
          refine h_op ?_
          refine h_var rfl ?_
          refine h_c ?_
          obtain ⟨p44, xs45, hv, hs46, hr47⟩ := Rep.st w (r_left.mono st.ex)
          cases hv
          obtain ⟨u48, hu, r49⟩ := RepL.at hr47 (i := 1) rfl
          refine h_ixT hs46 hu ?_
          cases r49
          refine h_op ?_
          refine h_var rfl ?_
          refine h_c ?_
          obtain ⟨p50, xs51, hv, hs52, hr53⟩ := Rep.st w (r_right.mono st.ex)
          cases hv
          obtain ⟨u54, hu, r55⟩ := RepL.at hr53 (i := 0) rfl
          refine h_ixT hs52 hu ?_
          cases r55
          obtain ⟨gd, P⟩ := P.guard
          refine h_I gd ?_
          refine h_nil ?_
          refine ⟨B20, v23, (enc a19.1), (a_left.a * a_right.b), (a_left.b * a_right.a), w, rfl, r24, (P.bind).mono (fun x56 P => ?_) (fun _ z => z)⟩
          refine fun v60 B57 H58 s59 r61 => ?_
          replace r24 := r24.mono s59.ex
          replace st := st.go s59 go0
          replace w := s59.ok
          cases r61
          exact P.ok _ _ _ st (Rep.bl _)
        · replace P := P.iteF c1
          exact P.ok _ _ _ st (Rep.bl _)
theorem ok__law_all_right {f : Addr} {fd : FuncData}  (F : Fun K "_law_all_right" "_law_all_right" s__law_all_right f fd) {f__law_alike : Addr} {d__law_alike : FuncData} (g__law_alike : mg "_law_alike" = some (.ref f__law_alike)) (k__law_alike : PySem.W.keepIn K (.ref f__law_alike) = true) (b__law_alike : L2.Binds K d__law_alike ["_law_found", "_law_top", "_law_bottom"] []) (G__law_alike : FnOk Pr wo K mg base CX0 3 f__law_alike d__law_alike ["_law_found", "_law_top", "_law_bottom"] (sp__law_alike K)) {f_minus : Addr} {d_minus : FuncData} (g_minus : mg "minus" = some (.ref f_minus)) (k_minus : PySem.W.keepIn K (.ref f_minus) = true) (b_minus : L2.Binds K d_minus ["one", "other"] []) (G_minus : FnOk Pr wo K mg base (L2.CX Pr wo) 3 f_minus d_minus ["one", "other"] (sp_minus K mg)) {f_plus : Addr} {d_plus : FuncData} (g_plus : mg "plus" = some (.ref f_plus)) (k_plus : PySem.W.keepIn K (.ref f_plus) = true) (b_plus : L2.Binds K d_plus ["one", "other"] []) (G_plus : FnOk Pr wo K mg base (L2.CX Pr wo) 3 f_plus d_plus ["one", "other"] (sp_plus K mg)) {f__law_share_right : Addr} {d__law_share_right : FuncData} (g__law_share_right : mg "_law_share_right" = some (.ref f__law_share_right)) (k__law_share_right : PySem.W.keepIn K (.ref f__law_share_right) = true) (b__law_share_right : L2.Binds K d__law_share_right ["_law_left", "_law_right"] []) (G__law_share_right : FnOk Pr wo K mg base CX0 4 f__law_share_right d__law_share_right ["_law_left", "_law_right"] (sp__law_share_right K)) {f_shared : Addr} {d_shared : FuncData} (g_shared : mg "shared" = some (.ref f_shared)) (k_shared : PySem.W.keepIn K (.ref f_shared) = true) (b_shared : L2.Binds K d_shared ["one", "other"] []) (G_shared : FnOk Pr wo K mg base (L2.CX Pr wo) 3 f_shared d_shared ["one", "other"] (sp_shared K mg)) {f_times : Addr} {d_times : FuncData} (g_times : mg "times" = some (.ref f_times)) (k_times : PySem.W.keepIn K (.ref f_times) = true) (b_times : L2.Binds K d_times ["one", "other"] []) (G_times : FnOk Pr wo K mg base (L2.CX Pr wo) 3 f_times d_times ["one", "other"] (sp_times K mg)) (kb_shared_0_one_other : KBinds K d_shared ["one", "other"] ["one", "other"] (fun us ws => match us, ws with | [], [w0, w1] => [w0, w1] | _, _ => []) (fun us ws => match us, ws with | [], [w0, w1] => [w0, w1] | _, _ => [])) : FnOk Pr wo K mg base CX0 5 f fd ["_law_left", "_law_right"] (sp__law_all_right K) := by
  refine F.ok sc__law_all_right (fun vs H Q E h => ?_) (fun cdv A outer s H0 vs Q E hr h => ?_)
  · obtain ⟨_, _, _, _, _, _, rfl, _⟩ := h; rfl
  · obtain ⟨B0, v_left, a_left, v_right, a_right, w, rfl, r_left, r_right, P⟩ := h
    have w0 := w
    have hu := hu_of hr
    have hu64 := hu64_of hr
    have hr3 : Room 3 _ := hr.mono (by decide)
    have hr4 : Room 4 _ := hr.mono (by decide)
    refine ⟨_, (pss_cons (ps_set (i := 2) sc__law_all_right.nd rfl (by first | exact Or.inl rfl | exact Or.inr rfl) (pe_op op_mulW (pe_ix (r := rIxT K) ix_tup (pv 0) pe_int (fun _ _ => rfl)) (pe_ix (r := rIxT K) ix_tup (pv 1) pe_int (fun _ _ => rfl))))
      (pss_cons (ps_if (pt_not (pt_val (pe_call G__law_alike hr3 rfl g__law_alike k__law_alike b__law_alike .nil pass0 (pa_cons (pe_call G_plus hr3 rfl g_plus k_plus b_plus .nil passL (pa_cons (pv 0) (pa_cons (pv 1) pa_nil))) (pa_cons (pe_op op_add (pe_op op_mulW (pe_ix (r := rIxT K) ix_tup (pv 0) pe_int (fun _ _ => rfl)) (pe_ix (r := rIxT K) ix_tup (pv 1) pe_int (fun _ _ => rfl))) (pe_op op_mulW (pe_ix (r := rIxT K) ix_tup (pv 1) pe_int (fun _ _ => rfl)) (pe_ix (r := rIxT K) ix_tup (pv 0) pe_int (fun _ _ => rfl)))) (pa_cons (pv 2) pa_nil)))))) (pss_one (ps_ret pe_bl)) pss_nil)
      (pss_cons (ps_if (pt_not (pt_val (pe_call G__law_alike hr3 rfl g__law_alike k__law_alike b__law_alike .nil pass0 (pa_cons (pe_call G_minus hr3 rfl g_minus k_minus b_minus .nil passL (pa_cons (pv 0) (pa_cons (pv 1) pa_nil))) (pa_cons (pe_op op_sub (pe_op op_mulW (pe_ix (r := rIxT K) ix_tup (pv 0) pe_int (fun _ _ => rfl)) (pe_ix (r := rIxT K) ix_tup (pv 1) pe_int (fun _ _ => rfl))) (pe_op op_mulW (pe_ix (r := rIxT K) ix_tup (pv 1) pe_int (fun _ _ => rfl)) (pe_ix (r := rIxT K) ix_tup (pv 0) pe_int (fun _ _ => rfl)))) (pa_cons (pv 2) pa_nil)))))) (pss_one (ps_ret pe_bl)) pss_nil)
      (pss_cons (ps_if (PW.pt (pw_or (pt_not (pt_val (pe_call G__law_alike hr3 rfl g__law_alike k__law_alike b__law_alike .nil pass0 (pa_cons (pe_call G_times hr3 rfl g_times k_times b_times .nil passL (pa_cons (pv 0) (pa_cons (pv 1) pa_nil))) (pa_cons (pe_op op_mulW (pe_ix (r := rIxT K) ix_tup (pv 0) pe_int (fun _ _ => rfl)) (pe_ix (r := rIxT K) ix_tup (pv 1) pe_int (fun _ _ => rfl))) (pa_cons (pv 2) pa_nil)))))) (pw_or1 (pt_not (pt_val (pe_call G__law_share_right hr4 rfl g__law_share_right k__law_share_right b__law_share_right .nil pass0 (pa_cons (pv 0) (pa_cons (pv 1) pa_nil)))))))) (pss_one (ps_ret pe_bl)) pss_nil)
      (pss_cons (ps_if (pt_cmpR (r := rNeD K) (op_neD hu64) (pe_call G_minus hr3 rfl g_minus k_minus b_minus .nil passL (pa_cons (pe_call G_plus hr3 rfl g_plus k_plus b_plus .nil passL (pa_cons (pv 0) (pa_cons (pv 1) pa_nil))) (pa_cons (pv 1) pa_nil))) (pv 0) (nomark _)) (pss_one (ps_ret pe_bl)) pss_nil)
      (pss_one (ps_ret (pe_or (pe_cmpR op_eq (pe_ix (r := rIxT K) ix_tup (pv 1) pe_int (fun _ _ => rfl)) pe_int (nomark _)) (pe_one (pe_cmpR (r := rEqD K) (op_eqD hu64) (pe_callK0 G_shared hr3 rfl g_shared k_shared kb_shared_0_one_other passL (pk_cons (pe_call G_times hr3 rfl g_times k_times b_times .nil passL (pa_cons (pv 0) (pa_cons (pv 1) pa_nil))) (pk_cons (pv 1) pk_nil))) (pv 0) (nomark _))))))))))), ?_⟩
    unfold l_all_right at P
    have st := Stp.refl (W := []) w
    refine h_set ?_
    refine h_op ?_
    refine h_op ?_
    refine h_var rfl ?_
    refine h_c ?_
    obtain ⟨p1, xs2, rfl, hs3, hr4⟩ := Rep.st w (r_left.mono st.ex)
    obtain ⟨u5, hu, r6⟩ := RepL.at hr4 (i := 1) rfl
    refine h_ixT hs3 hu ?_
    cases r6
    refine h_op ?_
    refine h_var rfl ?_
    refine h_c ?_
    obtain ⟨p7, xs8, rfl, hs9, hr10⟩ := Rep.st w (r_right.mono st.ex)
    obtain ⟨u11, hu, r12⟩ := RepL.at hr10 (i := 1) rfl
    refine h_ixT hs9 hu ?_
    cases r12
    obtain ⟨gd, P⟩ := P.guard
    refine h_I gd ?_
    replace P := P.lt
    generalize hx : (a_left.b * a_right.b) = x13 at P ⊢
    refine h_seq <| h_if ?_
    refine h_tnot ?_
    refine h_tB ?_
    refine h_call ?_
    refine h_cons ?_
    refine h_call ?_
    refine h_cons ?_
    refine h_var rfl ?_
    refine h_cons ?_
    refine h_var rfl ?_
    refine h_nil ?_
    refine ⟨B0, (.ref p1), a_left, (.ref p7), a_right, w, rfl, (r_left.mono st.ex), (r_right.mono st.ex), (P.bind.noErr).mono (fun x14 P => ?_) (fun _ z => z.elim)⟩
    refine fun v18 B15 H16 s17 r19 => ?_
    replace st := st.go s17 go0
    replace w := s17.ok
    refine h_cons ?_
    refine h_op ?_
    refine h_op ?_
    refine h_op ?_
    refine h_var rfl ?_
    refine h_c ?_
    obtain ⟨p20, xs21, hv, hs22, hr23⟩ := Rep.st w (r_left.mono st.ex)
    cases hv
    obtain ⟨u24, hu, r25⟩ := RepL.at hr23 (i := 0) rfl
    refine h_ixT hs22 hu ?_
    cases r25
    refine h_op ?_
    refine h_var rfl ?_
    refine h_c ?_
    obtain ⟨p26, xs27, hv, hs28, hr29⟩ := Rep.st w (r_right.mono st.ex)
    cases hv
    obtain ⟨u30, hu, r31⟩ := RepL.at hr29 (i := 1) rfl
    refine h_ixT hs28 hu ?_
    cases r31
    obtain ⟨gd, P⟩ := P.guard
    refine h_I gd ?_
    refine h_op ?_
    refine h_op ?_
    refine h_var rfl ?_
    refine h_c ?_
    obtain ⟨p32, xs33, hv, hs34, hr35⟩ := Rep.st w (r_right.mono st.ex)
    cases hv
    obtain ⟨u36, hu, r37⟩ := RepL.at hr35 (i := 0) rfl
    refine h_ixT hs34 hu ?_
    cases r37
    refine h_op ?_
    refine h_var rfl ?_
    refine h_c ?_
    obtain ⟨p38, xs39, hv, hs40, hr41⟩ := Rep.st w (r_left.mono st.ex)
    cases hv
    obtain ⟨u42, hu, r43⟩ := RepL.at hr41 (i := 1) rfl
    refine h_ixT hs40 hu ?_
    cases r43
    obtain ⟨gd, P⟩ := P.guard
    refine h_I gd ?_
    refine h_I0 ?_
    refine h_cons ?_
    refine h_var rfl ?_
    refine h_nil ?_
    refine ⟨B15, v18, (enc x14), ((a_left.a * a_right.b) + (a_right.a * a_left.b)), x13, w, rfl, r19, (P.bind).mono (fun x44 P => ?_) (fun _ z => z)⟩
    refine fun v48 B45 H46 s47 r49 => ?_
    replace r19 := r19.mono s47.ex
    replace st := st.go s47 go0
    replace w := s47.ok
    cases r49
    refine h_bl ?_
    refine h_iteN (fun c1 => ?_) (fun c1 => ?_)
    · replace P := P.iteF c1
      refine h_ret ?_
      refine h_c ?_
      exact P.ok _ _ _ st (Rep.bl _)
    · replace P := P.iteT c1
      refine h_next ?_
      refine h_nx ?_
      refine h_seq <| h_if ?_
      refine h_tnot ?_
      refine h_tB ?_
      refine h_call ?_
      refine h_cons ?_
      refine h_call ?_
      refine h_cons ?_
      refine h_var rfl ?_
      refine h_cons ?_
      refine h_var rfl ?_
      refine h_nil ?_
      refine ⟨B45, (.ref p1), a_left, (.ref p7), a_right, w, rfl, (r_left.mono st.ex), (r_right.mono st.ex), (P.bind.noErr).mono (fun x50 P => ?_) (fun _ z => z.elim)⟩
      refine fun v54 B51 H52 s53 r55 => ?_
      replace st := st.go s53 go0
      replace w := s53.ok
      refine h_cons ?_
      refine h_op ?_
      refine h_op ?_
      refine h_op ?_
      refine h_var rfl ?_
      refine h_c ?_
      obtain ⟨p56, xs57, hv, hs58, hr59⟩ := Rep.st w (r_left.mono st.ex)
      cases hv
      obtain ⟨u60, hu, r61⟩ := RepL.at hr59 (i := 0) rfl
      refine h_ixT hs58 hu ?_
      cases r61
      refine h_op ?_
      refine h_var rfl ?_
      refine h_c ?_
      obtain ⟨p62, xs63, hv, hs64, hr65⟩ := Rep.st w (r_right.mono st.ex)
      cases hv
      obtain ⟨u66, hu, r67⟩ := RepL.at hr65 (i := 1) rfl
      refine h_ixT hs64 hu ?_
      cases r67
      obtain ⟨gd, P⟩ := P.guard
      refine h_I gd ?_
      refine h_op ?_
      refine h_op ?_
      refine h_var rfl ?_
      refine h_c ?_
      obtain ⟨p68, xs69, hv, hs70, hr71⟩ := Rep.st w (r_right.mono st.ex)
      cases hv
      obtain ⟨u72, hu, r73⟩ := RepL.at hr71 (i := 0) rfl
      refine h_ixT hs70 hu ?_
      cases r73
      refine h_op ?_
      refine h_var rfl ?_
      refine h_c ?_
      obtain ⟨p74, xs75, hv, hs76, hr77⟩ := Rep.st w (r_left.mono st.ex)
      cases hv
      obtain ⟨u78, hu, r79⟩ := RepL.at hr77 (i := 1) rfl
      refine h_ixT hs76 hu ?_
      cases r79
      obtain ⟨gd, P⟩ := P.guard
      refine h_I gd ?_
      refine h_I0 ?_
      refine h_cons ?_
      refine h_var rfl ?_
      refine h_nil ?_
      refine ⟨B51, v54, (enc x50), ((a_left.a * a_right.b) - (a_right.a * a_left.b)), x13, w, rfl, r55, (P.bind).mono (fun x80 P => ?_) (fun _ z => z)⟩
      refine fun v84 B81 H82 s83 r85 => ?_
      replace r55 := r55.mono s83.ex
      replace st := st.go s83 go0
      replace w := s83.ok
      cases r85
      refine h_bl ?_
      refine h_iteN (fun c1 => ?_) (fun c1 => ?_)
      · replace P := P.iteF c1
        refine h_ret ?_
        refine h_c ?_
        exact P.ok _ _ _ st (Rep.bl _)
      · replace P := P.iteT c1
        refine h_next ?_
        refine h_nx ?_
        refine h_seq <| h_if ?_
        refine h_tor ?_
        refine h_tnot ?_
        refine h_tB ?_
        refine h_call ?_
        refine h_cons ?_
        refine h_call ?_
        refine h_cons ?_
        refine h_var rfl ?_
        refine h_cons ?_
        refine h_var rfl ?_
        refine h_nil ?_
        refine ⟨B81, (.ref p1), a_left, (.ref p7), a_right, w, rfl, (r_left.mono st.ex), (r_right.mono st.ex), (P.bind.noErr).mono (fun x86 P => ?_) (fun _ z => z.elim)⟩
        refine fun v90 B87 H88 s89 r91 => ?_
        replace st := st.go s89 go0
        replace w := s89.ok
        refine h_cons ?_
        refine h_op ?_
        refine h_op ?_
        refine h_var rfl ?_
        refine h_c ?_
        obtain ⟨p92, xs93, hv, hs94, hr95⟩ := Rep.st w (r_left.mono st.ex)
        cases hv
        obtain ⟨u96, hu, r97⟩ := RepL.at hr95 (i := 0) rfl
        refine h_ixT hs94 hu ?_
        cases r97
        refine h_op ?_
        refine h_var rfl ?_
        refine h_c ?_
        obtain ⟨p98, xs99, hv, hs100, hr101⟩ := Rep.st w (r_right.mono st.ex)
        cases hv
        obtain ⟨u102, hu, r103⟩ := RepL.at hr101 (i := 0) rfl
        refine h_ixT hs100 hu ?_
        cases r103
        obtain ⟨gd, P⟩ := P.guard
        refine h_I gd ?_
        refine h_cons ?_
        refine h_var rfl ?_
        refine h_nil ?_
        refine ⟨B87, v90, (enc x86), (a_left.a * a_right.a), x13, w, rfl, r91, (P.bind).mono (fun x104 P => ?_) (fun _ z => z)⟩
        refine fun v108 B105 H106 s107 r109 => ?_
        replace r91 := r91.mono s107.ex
        replace st := st.go s107 go0
        replace w := s107.ok
        cases r109
        refine h_bl ?_
        refine h_iteN (fun c1 => ?_) (fun c1 => ?_)
        · replace P := P.iteF c1
          refine h_iteT ?_
          refine h_ret ?_
          refine h_c ?_
          exact P.ok _ _ _ st (Rep.bl _)
        · replace P := P.iteT c1
          refine h_tnot ?_
          refine h_tB ?_
          refine h_call ?_
          refine h_cons ?_
          refine h_var rfl ?_
          refine h_cons ?_
          refine h_var rfl ?_
          refine h_nil ?_
          refine ⟨B105, (.ref p1), a_left, (.ref p7), a_right, w, rfl, (r_left.mono st.ex), (r_right.mono st.ex), (P.bind).mono (fun x110 P => ?_) (fun _ z => z)⟩
          refine fun v114 B111 H112 s113 r115 => ?_
          replace st := st.go s113 go0
          replace w := s113.ok
          cases r115
          refine h_bl ?_
          refine h_iteN (fun c1 => ?_) (fun c1 => ?_)
          · replace P := P.iteF c1
            refine h_ret ?_
            refine h_c ?_
            exact P.ok _ _ _ st (Rep.bl _)
          · replace P := P.iteT c1
            refine h_next ?_
            refine h_nx ?_
            refine h_seq <| h_if ?_
            refine h_test ?_
            refine h_op ?_
            refine h_call ?_
            refine h_cons ?_
            refine h_call ?_
            refine h_cons ?_
            refine h_var rfl ?_
            refine h_cons ?_
            refine h_var rfl ?_
            refine h_nil ?_
            refine ⟨B111, (.ref p1), a_left, (.ref p7), a_right, w, rfl, (r_left.mono st.ex), (r_right.mono st.ex), (P.bind.noErr).mono (fun x116 P => ?_) (fun _ z => z.elim)⟩
            refine fun v120 B117 H118 s119 r121 => ?_
            replace st := st.go s119 go0
            replace w := s119.ok
            refine h_cons ?_
            refine h_var rfl ?_
            refine h_nil ?_
            refine ⟨B117, v120, x116, (.ref p7), a_right, w, rfl, r121, (r_right.mono st.ex), (P.bind.noErr).mono (fun x122 P => ?_) (fun _ z => z.elim)⟩
            refine fun v126 B123 H124 s125 r127 => ?_
            replace r121 := r121.mono s125.ex
            replace st := st.go s125 go0
            replace w := s125.ok
            refine h_var rfl ?_
            obtain ⟨gd, P⟩ := P.guard
            refine h_neD (d := (enc x122)) (e := (enc a_left)) w r127 (r_left.mono st.ex) gd ?_
            refine h_bl ?_
            refine h_ite (fun c1 => ?_) (fun c1 => ?_)
            · replace P := P.iteT c1
              refine h_ret ?_
              refine h_c ?_
              exact P.ok _ _ _ st (Rep.bl _)
            · replace P := P.iteF c1
              refine h_next ?_
              refine h_nx ?_
              refine h_ret ?_
              refine h_or ?_
              refine h_op ?_
              refine h_op ?_
              refine h_var rfl ?_
              refine h_c ?_
              obtain ⟨p128, xs129, hv, hs130, hr131⟩ := Rep.st w (r_right.mono st.ex)
              cases hv
              obtain ⟨u132, hu, r133⟩ := RepL.at hr131 (i := 0) rfl
              refine h_ixT hs130 hu ?_
              cases r133
              refine h_c ?_
              refine h_eqI ?_
              refine h_bl ?_
              refine h_ite (fun c1 => ?_) (fun c1 => ?_)
              · replace P := P.iteT c1
                exact P.ok _ _ _ st (Rep.bl _)
              · replace P := P.iteF c1
                refine h_op ?_
                refine h_callK0 ?_
                refine h_cons ?_
                refine h_call ?_
                refine h_cons ?_
                refine h_var rfl ?_
                refine h_cons ?_
                refine h_var rfl ?_
                refine h_nil ?_
                refine ⟨B123, (.ref p1), a_left, (.ref p7), a_right, w, rfl, (r_left.mono st.ex), (r_right.mono st.ex), (P.bind.noErr).mono (fun x134 P => ?_) (fun _ z => z.elim)⟩
                refine fun v138 B135 H136 s137 r139 => ?_
                replace st := st.go s137 go0
                replace w := s137.ok
                refine h_cons ?_
                refine h_var rfl ?_
                refine h_nil ?_
                refine ⟨B135, v138, x134, (.ref p7), a_right, w, rfl, r139, (r_right.mono st.ex), (P.bind.noErr).mono (fun x140 P => ?_) (fun _ z => z.elim)⟩
                refine fun v144 B141 H142 s143 r145 => ?_
                replace r139 := r139.mono s143.ex
                replace st := st.go s143 go0
                replace w := s143.ok
                refine h_var rfl ?_
                obtain ⟨gd, P⟩ := P.guard
                refine h_eqD (d := (enc x140)) (e := (enc a_left)) w r145 (r_left.mono st.ex) gd ?_
                exact P.ok _ _ _ st (Rep.bl _)
theorem ok_law {f : Addr} {fd : FuncData}  (F : Fun K "law" "law" s_law f fd) {f__law_drawn : Addr} {d__law_drawn : FuncData} (g__law_drawn : mg "_law_drawn" = some (.ref f__law_drawn)) (k__law_drawn : PySem.W.keepIn K (.ref f__law_drawn) = true) (b__law_drawn : L2.Binds K d__law_drawn ["_law_state"] []) (G__law_drawn : FnOk Pr wo K mg base CX0 3 f__law_drawn d__law_drawn ["_law_state"] (sp__law_drawn K)) {f__law_second : Addr} {d__law_second : FuncData} (g__law_second : mg "_law_second" = some (.ref f__law_second)) (k__law_second : PySem.W.keepIn K (.ref f__law_second) = true) (b__law_second : L2.Binds K d__law_second ["_law_state", "_law_left"] []) (G__law_second : FnOk Pr wo K mg base CX0 4 f__law_second d__law_second ["_law_state", "_law_left"] (sp__law_second K)) {f__law_all_right : Addr} {d__law_all_right : FuncData} (g__law_all_right : mg "_law_all_right" = some (.ref f__law_all_right)) (k__law_all_right : PySem.W.keepIn K (.ref f__law_all_right) = true) (b__law_all_right : L2.Binds K d__law_all_right ["_law_left", "_law_right"] []) (G__law_all_right : FnOk Pr wo K mg base CX0 5 f__law_all_right d__law_all_right ["_law_left", "_law_right"] (sp__law_all_right K)) {f__law_cell_at : Addr} {d__law_cell_at : FuncData} (g__law_cell_at : mg "_law_cell_at" = some (.ref f__law_cell_at)) (k__law_cell_at : PySem.W.keepIn K (.ref f__law_cell_at) = true) (b__law_cell_at : L2.Binds K d__law_cell_at ["_law_script", "_law_k"] []) (G__law_cell_at : FnOk Pr wo K mg base CX0 1 f__law_cell_at d__law_cell_at ["_law_script", "_law_k"] (sp__law_cell_at K)) {f_fraction : Addr} {d_fraction : FuncData} (g_fraction : mg "fraction" = some (.ref f_fraction)) (k_fraction : PySem.W.keepIn K (.ref f_fraction) = true) (b_fraction : L2.Binds K d_fraction ["top", "bottom"] []) (G_fraction : FnOk Pr wo K mg base (L2.CX Pr wo) 2 f_fraction d_fraction ["top", "bottom"] (sp_fraction K mg)) {f_minus : Addr} {d_minus : FuncData} (g_minus : mg "minus" = some (.ref f_minus)) (k_minus : PySem.W.keepIn K (.ref f_minus) = true) (b_minus : L2.Binds K d_minus ["one", "other"] []) (G_minus : FnOk Pr wo K mg base (L2.CX Pr wo) 3 f_minus d_minus ["one", "other"] (sp_minus K mg)) (kb_minus_0_other_one : KBinds K d_minus ["one", "other"] ["other", "one"] (fun us ws => match us, ws with | [], [w0, w1] => [w1, w0] | _, _ => []) (fun us ws => match us, ws with | [], [w0, w1] => [w1, w0] | _, _ => [])) : FnOk Pr wo K mg base CX0 6 f fd ["_law_script"] (sp_law K) := by
  refine F.ok sc_law (fun vs H Q E h => ?_) (fun cdv A outer s H0 vs Q E hr h => ?_)
  · obtain ⟨_, _, _, _, rfl, _⟩ := h; rfl
  · obtain ⟨B0, v_script, a_script, w, rfl, r_script, P⟩ := h
    have w0 := w
    have hu := hu_of hr
    have hu64 := hu64_of hr
    have hr1 : Room 1 _ := hr.mono (by decide)
    have hr2 : Room 2 _ := hr.mono (by decide)
    have hr3 : Room 3 _ := hr.mono (by decide)
    have hr4 : Room 4 _ := hr.mono (by decide)
    have hr5 : Room 5 _ := hr.mono (by decide)
    refine ⟨_, (pss_cons (ps_set (i := 1) sc_law.nd rfl (by first | exact Or.inl rfl | exact Or.inr rfl) (pe_call G__law_drawn hr3 rfl g__law_drawn k__law_drawn b__law_drawn .nil pass0 (pa_cons (pe_lst (pa_cons (pe_call G__law_cell_at hr1 rfl g__law_cell_at k__law_cell_at b__law_cell_at .nil pass0 (pa_cons (pv 0) (pa_cons pe_int pa_nil))) pa_nil)) pa_nil)))
      (pss_cons (ps_set (i := 2) sc_law.nd rfl (by first | exact Or.inl rfl | exact Or.inr rfl) (pe_call G__law_second hr4 rfl g__law_second k__law_second b__law_second .nil pass0 (pa_cons (pe_lst (pa_cons (pe_call G__law_cell_at hr1 rfl g__law_cell_at k__law_cell_at b__law_cell_at .nil pass0 (pa_cons (pv 0) (pa_cons pe_int pa_nil))) pa_nil)) (pa_cons (pv 1) pa_nil))))
      (pss_cons (ps_if (PW.pt (pw_or (pt_cmpR (r := rNeD K) (op_neD hu64) (pe_call G_fraction hr2 rfl g_fraction k_fraction b_fraction .nil passL (pa_cons (pe_ix (r := rIxT K) ix_tup (pv 1) pe_int (fun _ _ => rfl)) (pa_cons (pe_ix (r := rIxT K) ix_tup (pv 1) pe_int (fun _ _ => rfl)) pa_nil))) (pv 1) (nomark _)) (pw_or1 (pt_cmpR (r := rNeD K) (op_neD hu64) (pe_callK0 G_minus hr3 rfl g_minus k_minus kb_minus_0_other_one passL (pk_cons (pv 2) (pk_cons (pv 1) pk_nil))) (pe_call G_minus hr3 rfl g_minus k_minus b_minus .nil passL (pa_cons (pv 1) (pa_cons (pv 2) pa_nil))) (nomark _))))) (pss_one (ps_ret pe_bl)) pss_nil)
      (pss_cons (ps_set (i := 3) sc_law.nd rfl (by first | exact Or.inl rfl | exact Or.inr rfl) (pe_call G__law_second hr4 rfl g__law_second k__law_second b__law_second .nil pass0 (pa_cons (pe_lst (pa_cons (pe_call G__law_cell_at hr1 rfl g__law_cell_at k__law_cell_at b__law_cell_at .nil pass0 (pa_cons (pv 0) (pa_cons pe_int pa_nil))) pa_nil)) (pa_cons (pv 2) pa_nil))))
      (pss_one (ps_ret (pe_and (pe_call G__law_all_right hr5 rfl g__law_all_right k__law_all_right b__law_all_right .nil pass0 (pa_cons (pv 1) (pa_cons (pv 2) pa_nil))) (pe_and (pe_call G__law_all_right hr5 rfl g__law_all_right k__law_all_right b__law_all_right .nil pass0 (pa_cons (pv 2) (pa_cons (pv 1) pa_nil))) (pe_one (pe_call G__law_all_right hr5 rfl g__law_all_right k__law_all_right b__law_all_right .nil pass0 (pa_cons (pv 3) (pa_cons (pv 1) pa_nil)))))))))))), ?_⟩
    unfold m_law at P
    have st := Stp.refl (W := []) w
    refine h_set ?_
    refine h_call ?_
    refine h_cons ?_
    refine h_lst ?_
    refine h_cons ?_
    refine h_call ?_
    refine h_cons ?_
    refine h_var rfl ?_
    refine h_cons ?_
    refine h_c ?_
    refine h_nil ?_
    refine ⟨B0, v_script, a_script, 0, w, rfl, ((r_script.step st).w sub0), (P.bind).mono (fun x1 P => ?_) (fun _ z => z)⟩
    refine fun v5 B2 H3 s4 r6 => ?_
    replace st := st.go s4 go0
    replace w := s4.ok
    cases r6
    refine h_nil ?_
    refine h_newM w (ds := (([x1] : List Int)).map enc) (K := K) (.cons (Rep.int _) .nil) (fun p7 H8 hn11 s9 m10 => ?_) (by show 1 ≤ sizeLine; decide)
    have n12 := st.nn hn11
    replace st := st.go s9 go0
    replace w := s9.ok
    refine h_nil ?_
    refine ⟨B2, p7, ([x1] : List Int), w, rfl, m10, (P.bind).mono (fun x13 P => ?_) (fun _ z => z)⟩
    refine fun v17 B14 H15 s16 m10 r18 => ?_
    replace st := st.go s16 (go1 (.inr n12))
    replace w := s16.ok
    refine h_set ?_
    refine h_call ?_
    refine h_cons ?_
    refine h_lst ?_
    refine h_cons ?_
    refine h_call ?_
    refine h_cons ?_
    refine h_var rfl ?_
    refine h_cons ?_
    refine h_c ?_
    refine h_nil ?_
    refine ⟨B14, v_script, a_script, 1, w, rfl, ((r_script.step st).w sub0), (P.bind).mono (fun x19 P => ?_) (fun _ z => z)⟩
    refine fun v23 B20 H21 s22 r24 => ?_
    replace r18 := r18.mono s22.ex
    replace st := st.go s22 go0
    replace w := s22.ok
    cases r24
    refine h_nil ?_
    refine h_newM w (ds := (([x19] : List Int)).map enc) (K := K) (.cons (Rep.int _) .nil) (fun p25 H26 hn29 s27 m28 => ?_) (by show 1 ≤ sizeLine; decide)
    have n30 := st.nn hn29
    replace r18 := r18.mono s27.ex
    replace st := st.go s27 go0
    replace w := s27.ok
    refine h_cons ?_
    refine h_var rfl ?_
    refine h_nil ?_
    refine ⟨B20, p25, ([x19] : List Int), v17, x13.1, w, rfl, m28, r18, (P.bind).mono (fun x31 P => ?_) (fun _ z => z)⟩
    refine fun v35 B32 H33 s34 m28 r36 => ?_
    replace r18 := r18.mono s34.ex
    replace st := st.go s34 (go1 (.inr n30))
    replace w := s34.ok
    refine h_seq <| h_if ?_
    refine h_tor ?_
    refine h_test ?_
    refine h_op ?_
    refine h_call ?_
    refine h_cons ?_
    refine h_op ?_
    refine h_var rfl ?_
    refine h_c ?_
    obtain ⟨p37, xs38, rfl, hs39, hr40⟩ := Rep.st w r18
    obtain ⟨u41, hu, r42⟩ := RepL.at hr40 (i := 0) rfl
    refine h_ixT hs39 hu ?_
    cases r42
    refine h_cons ?_
    refine h_op ?_
    refine h_var rfl ?_
    refine h_c ?_
    obtain ⟨p43, xs44, hv, hs45, hr46⟩ := Rep.st w r18
    cases hv
    obtain ⟨u47, hu, r48⟩ := RepL.at hr46 (i := 1) rfl
    refine h_ixT hs45 hu ?_
    cases r48
    refine h_nil ?_
    refine ⟨B32, .int x13.1.a, (enc (x13.1.a : Int)), .int x13.1.b, (enc (x13.1.b : Int)), w, rfl, (Rep.int _), (Rep.int _), (P.bind.noErr).mono (fun x49 P => ?_) (fun _ z => z.elim)⟩
    refine fun v53 B50 H51 s52 r54 => ?_
    replace r18 := r18.mono s52.ex
    replace r36 := r36.mono s52.ex
    replace st := st.go s52 go0
    replace w := s52.ok
    refine h_var rfl ?_
    obtain ⟨gd, P⟩ := P.guard
    refine h_neD (d := (enc x49)) (e := (enc x13.1)) w r54 r18 gd ?_
    refine h_bl ?_
    refine h_ite (fun c1 => ?_) (fun c1 => ?_)
    · replace P := P.iteT c1
      refine h_iteT ?_
      refine h_ret ?_
      refine h_c ?_
      exact P.ok _ _ _ st (Rep.bl _)
    · replace P := P.iteF c1
      refine h_test ?_
      refine h_op ?_
      refine h_callK0 ?_
      refine h_cons ?_
      refine h_var rfl ?_
      refine h_cons ?_
      refine h_var rfl ?_
      refine h_nil ?_
      refine ⟨B50, (.ref p37), x13.1, v35, x31.1, w, rfl, r18, r36, (P.bind.noErr).mono (fun x55 P => ?_) (fun _ z => z.elim)⟩
      refine fun v59 B56 H57 s58 r60 => ?_
      replace r18 := r18.mono s58.ex
      replace r36 := r36.mono s58.ex
      replace st := st.go s58 go0
      replace w := s58.ok
      refine h_call ?_
      refine h_cons ?_
      refine h_var rfl ?_
      refine h_cons ?_
      refine h_var rfl ?_
      refine h_nil ?_
      refine ⟨B56, (.ref p37), x13.1, v35, x31.1, w, rfl, r18, r36, (P.bind.noErr).mono (fun x61 P => ?_) (fun _ z => z.elim)⟩
      refine fun v65 B62 H63 s64 r66 => ?_
      replace r18 := r18.mono s64.ex
      replace r36 := r36.mono s64.ex
      replace r60 := r60.mono s64.ex
      replace st := st.go s64 go0
      replace w := s64.ok
      obtain ⟨gd, P⟩ := P.guard
      refine h_neD (d := (enc x55)) (e := (enc x61)) w r60 r66 gd ?_
      refine h_bl ?_
      refine h_ite (fun c1 => ?_) (fun c1 => ?_)
      · replace P := P.iteT c1
        refine h_ret ?_
        refine h_c ?_
        exact P.ok _ _ _ st (Rep.bl _)
      · replace P := P.iteF c1
        refine h_next ?_
        refine h_nx ?_
        refine h_set ?_
        refine h_call ?_
        refine h_cons ?_
        refine h_lst ?_
        refine h_cons ?_
        refine h_call ?_
        refine h_cons ?_
        refine h_var rfl ?_
        refine h_cons ?_
        refine h_c ?_
        refine h_nil ?_
        refine ⟨B62, v_script, a_script, 2, w, rfl, ((r_script.step st).w sub0), (P.bind).mono (fun x67 P => ?_) (fun _ z => z)⟩
        refine fun v71 B68 H69 s70 r72 => ?_
        replace r18 := r18.mono s70.ex
        replace r36 := r36.mono s70.ex
        replace st := st.go s70 go0
        replace w := s70.ok
        cases r72
        refine h_nil ?_
        refine h_newM w (ds := (([x67] : List Int)).map enc) (K := K) (.cons (Rep.int _) .nil) (fun p73 H74 hn77 s75 m76 => ?_) (by show 1 ≤ sizeLine; decide)
        have n78 := st.nn hn77
        replace r18 := r18.mono s75.ex
        replace r36 := r36.mono s75.ex
        replace st := st.go s75 go0
        replace w := s75.ok
        refine h_cons ?_
        refine h_var rfl ?_
        refine h_nil ?_
        refine ⟨B68, p73, ([x67] : List Int), v35, x31.1, w, rfl, m76, r36, (P.bind).mono (fun x79 P => ?_) (fun _ z => z)⟩
        refine fun v83 B80 H81 s82 m76 r84 => ?_
        replace r18 := r18.mono s82.ex
        replace r36 := r36.mono s82.ex
        replace st := st.go s82 (go1 (.inr n78))
        replace w := s82.ok
        refine h_ret ?_
        refine h_and ?_
        refine h_call ?_
        refine h_cons ?_
        refine h_var rfl ?_
        refine h_cons ?_
        refine h_var rfl ?_
        refine h_nil ?_
        refine ⟨B80, (.ref p37), x13.1, v35, x31.1, w, rfl, r18, r36, (P.bind).mono (fun x85 P => ?_) (fun _ z => z)⟩
        refine fun v89 B86 H87 s88 r90 => ?_
        replace r18 := r18.mono s88.ex
        replace r36 := r36.mono s88.ex
        replace r84 := r84.mono s88.ex
        replace st := st.go s88 go0
        replace w := s88.ok
        cases r90
        refine h_bl ?_
        refine h_ite (fun c1 => ?_) (fun c1 => ?_)
        · replace P := P.iteT c1
          refine h_and ?_
          refine h_call ?_
          refine h_cons ?_
          refine h_var rfl ?_
          refine h_cons ?_
          refine h_var rfl ?_
          refine h_nil ?_
          refine ⟨B86, v35, x31.1, (.ref p37), x13.1, w, rfl, r36, r18, (P.bind).mono (fun x91 P => ?_) (fun _ z => z)⟩
          refine fun v95 B92 H93 s94 r96 => ?_
          replace r18 := r18.mono s94.ex
          replace r36 := r36.mono s94.ex
          replace r84 := r84.mono s94.ex
          replace st := st.go s94 go0
          replace w := s94.ok
          cases r96
          refine h_bl ?_
          refine h_ite (fun c1 => ?_) (fun c1 => ?_)
          · replace P := P.iteT c1
            refine h_call ?_
            refine h_cons ?_
            refine h_var rfl ?_
            refine h_cons ?_
            refine h_var rfl ?_
            refine h_nil ?_
            refine ⟨B92, v83, x79.1, (.ref p37), x13.1, w, rfl, r84, r18, (P.bind).mono (fun x97 P => ?_) (fun _ z => z)⟩
            refine fun v101 B98 H99 s100 r102 => ?_
            replace r18 := r18.mono s100.ex
            replace r36 := r36.mono s100.ex
            replace r84 := r84.mono s100.ex
            replace st := st.go s100 go0
            replace w := s100.ok
            cases r102
            exact P.ok _ _ _ st (Rep.bl _)
          · replace P := P.iteF c1
            exact P.ok _ _ _ st (Rep.bl _)
        · replace P := P.iteF c1
          exact P.ok _ _ _ st (Rep.bl _)
end
end A
set_option Elab.async false
set_option linter.all false
set_option maxRecDepth 100000
set_option maxHeartbeats 2000000
namespace Y
open PySem PySem.Spec PyProof.Rows L2
open Enc (enc)
/-! # plain mathematics over mirrors -/
/-- m gives a value, and φ of it -/
def Ok {α : Type} (m : Res α) (φ : α → Prop) : Prop := ∃ a, m = .ok a ∧ φ a
section
variable {α β : Type} {m : Res α} {φ φ' : α → Prop} {k : α → Res β} {ψ : β → Prop} {a : α} {c : Bool} {i : Int} {l : List α}
theorem Ok.pure (h : φ a) : Ok (.ok a) φ := ⟨a, rfl, h⟩
theorem Ok.bind (h : Ok m φ) (hk : ∀ a, φ a → Ok (k a) ψ) : Ok (m.bind k) ψ := by
  obtain ⟨a, e, p⟩ := h
  rw [e]
  exact hk a p
theorem Ok.bindE (e : m = .ok a) (h : Ok (k a) ψ) : Ok (m.bind k) ψ := by rw [e]; exact h
theorem Ok.mono (h : Ok m φ) (hk : ∀ a, φ a → φ' a) : Ok m φ' := by
  obtain ⟨a, e, p⟩ := h
  exact ⟨a, e, hk a p⟩
theorem Ok.ite {m m' : Res α} (h1 : c = true → Ok m φ) (h2 : c = false → Ok m' φ) : Ok (if c = true then m else m') φ := by
  cases c
  · rw [if_neg Bool.false_ne_true]; exact h2 rfl
  · rw [if_pos rfl]; exact h1 rfl
theorem Ok.iteT {m m' : Res α} (hc : c = true) (h : Ok m φ) : Ok (if c = true then m else m') φ := by
  rw [if_pos hc]; exact h
theorem Ok.iteF {m m' : Res α} (hc : c = false) (h : Ok m' φ) : Ok (if c = true then m else m') φ := by
  rw [hc, if_neg Bool.false_ne_true]; exact h
theorem Ok.guard {p : Prop} [Decidable p] (hp : p) (h : Ok m φ) : Ok (guardR p m) φ := by
  unfold guardR; rw [if_pos hp]; exact h
theorem Ok.lt {d : α} (h : Ok (k d) ψ) : Ok (Y.lt d k) ψ := h
theorem Ok.noErr (h : Ok m φ) : Ok m.noErr φ := by
  obtain ⟨a, e, p⟩ := h
  exact ⟨a, by rw [e]; rfl, p⟩
theorem atI_in (h0 : 0 ≤ i) (h1 : i < (l.length : Int)) : ∃ x, atI l i = some x ∧ l[i.toNat]? = some x ∧ x ∈ l := by
  have h2 : i.toNat < l.length := by omega
  have e : ixN l.length i = some i.toNat := by unfold ixN; rw [if_pos h0, if_pos h1]
  refine ⟨l[i.toNat], ?_, List.getElem?_eq_getElem h2, List.getElem_mem h2⟩
  unfold atI
  rw [e]
  exact List.getElem?_eq_getElem h2
theorem Ok.ix (h0 : 0 ≤ i) (h1 : i < (l.length : Int)) (h : ∀ x, x ∈ l → l[i.toNat]? = some x → Ok (k x) ψ) : Ok ((ixR l i).bind k) ψ := by
  obtain ⟨x, e, e2, m⟩ := atI_in h0 h1
  unfold ixR
  rw [e]
  exact h x m e2
theorem Ok.ixs {x : α} (e : ixR l i = .ok x) (h : Ok (k x) ψ) : Ok ((ixR l i).bind k) ψ := by rw [e]; exact h
/-- an item of a written list -/
theorem Ok.ixm (h0 : 0 ≤ i) (h1 : i < (l.length : Int)) (h : ∀ x, x ∈ l → Ok (k x) ψ) : Ok ((ixR l i).bind k) ψ := Ok.ix h0 h1 fun x m _ => h x m
/-- a loop that keeps I and ends by itself -/
theorem Ok.for {S R : Type} {f : α → S → Res (Fl S R)} (I : S → Prop) (hf : ∀ x s, x ∈ l → I s → Ok (f x s) fun r => ∃ s', r = .nx s' ∧ I s') : ∀ {s : S}, I s → Ok (forR l s f) fun r => ∃ s', r = .nx s' ∧ I s' := by
  induction l with
  | nil => intro s h; exact ⟨_, rfl, s, rfl, h⟩
  | cons x xs ih =>
    intro s h
    refine Ok.bind (hf x s List.mem_cons_self h) ?_
    rintro r ⟨s', rfl, h'⟩
    exact ih (fun y s m h => hf y s (List.mem_cons_of_mem _ m) h) h'
/-- a comprehension: each turn gives a good thing and keeps I -/
theorem Ok.compL {S R : Type} {f : α → S → Res (Option R × S)} (I : S → Prop) (G : R → Prop) (hf : ∀ x s, x ∈ l → I s → Ok (f x s) fun r => I r.2 ∧ ∀ b, r.1 = some b → G b) : ∀ {s : S}, I s → Ok (compL l s f) fun r => I r.2 ∧ ∀ b ∈ r.1, G b := by
  induction l with
  | nil => intro s h; exact ⟨_, rfl, h, fun _ m => nomatch m⟩
  | cons x xs ih =>
    intro s h
    refine Ok.bind (hf x s List.mem_cons_self h) ?_
    rintro ⟨o, s'⟩ ⟨h', g⟩
    refine Ok.bind (ih (fun y s m h => hf y s (List.mem_cons_of_mem _ m) h) h') ?_
    rintro ⟨bs, s2⟩ ⟨h2, g2⟩
    refine ⟨_, rfl, h2, fun b m => ?_⟩
    cases o with
    | none => exact g2 b m
    | some b0 =>
      rcases List.mem_cons.mp m with e | m
      · rw [e]; exact g b0 rfl
      · exact g2 b m
theorem Ok.comp {S R : Type} {f : α → S → Res (Option R × S)} {s : S} (hl : l.length ≤ 1000000) (I : S → Prop) (G : R → Prop) (hf : ∀ x s, x ∈ l → I s → Ok (f x s) fun r => I r.2 ∧ ∀ b, r.1 = some b → G b) (h : I s) : Ok (compR l s f) fun r => I r.2 ∧ ∀ b ∈ r.1, G b := Ok.guard hl (Ok.compL I G hf h)
/-- .. and no more things than turns -/
theorem Ok.compLen {S R : Type} {f : α → S → Res (Option R × S)} {s : S} (hl : l.length ≤ 1000000) (I : S → Prop) (G : R → Prop) (hf : ∀ x s, x ∈ l → I s → Ok (f x s) fun r => I r.2 ∧ ∀ b, r.1 = some b → G b) (h : I s) : Ok (compR l s f) fun r => I r.2 ∧ (∀ b ∈ r.1, G b) ∧ r.1.length ≤ l.length := by
  refine Ok.guard hl ?_
  clear hl
  induction l generalizing s with
  | nil => exact ⟨_, rfl, h, (fun _ m => nomatch m), Nat.le_refl _⟩
  | cons x xs ih =>
    refine Ok.bind (hf x s List.mem_cons_self h) ?_
    rintro ⟨o, s'⟩ ⟨h', g⟩
    refine Ok.bind (ih (fun y s m h => hf y s (List.mem_cons_of_mem _ m) h) h') ?_
    rintro ⟨bs, s2⟩ ⟨h2, g2, g3⟩
    refine ⟨_, rfl, h2, fun b m => ?_, ?_⟩
    · cases o with
      | none => exact g2 b m
      | some b0 =>
        rcases List.mem_cons.mp m with e | m
        · rw [e]; exact g b0 rfl
        · exact g2 b m
    · cases o with
      | none => exact Nat.le_succ_of_le g3
      | some b0 => exact Nat.succ_le_succ g3
end
theorem log2_small {n b : Nat} (h : n < 2 ^ b) (h0 : 0 < b) : n.log2 < b := PySem.Flt.log2_lt_of h0 h
theorem mulW {i j : Int} {a b : Nat} (ha : i.natAbs < 2 ^ a) (hb : j.natAbs < 2 ^ b) (h0 : 0 < a := by decide) (h1 : 0 < b := by decide) (h : a + b ≤ 1000000 := by decide) : CMulW i j := wide_mul ha hb h0 h1 h
theorem divW {i j : Int} {b : Nat} (h : 0 < j) (hb : j.natAbs < 2 ^ b) (h0 : 0 < b := by decide) (h9 : b ≤ 9000 := by decide) : CDivW i j := wide_div h hb h0 h9
theorem cutL_mem {α : Type} {l : List α} {lo hi : Option Int} {x : α} (h : x ∈ cutL l lo hi) : x ∈ l := List.mem_of_mem_drop (List.mem_of_mem_take h)
theorem cutL_len {α : Type} {l : List α} {lo hi : Option Int} : (cutL l lo hi).length ≤ l.length := by
  unfold cutL
  rw [List.length_take, List.length_drop]
  omega
mutual
theorem eqv_refl : ∀ d : D, flatD d = true → PyData.eqv (pyD d) (pyD d) = true
  | .non, _ => rfl
  | .bl b, _ => by show (b == b) = true; simp
  | .int i, _ => by show (i == i) = true; simp
  | .str x, _ => by show (x == x) = true; simp
  | .lst ds, h => eqvs_refl ds h
  | .tup ds, h => eqvs_refl ds h
  | .dic _, h => nomatch h
theorem eqvs_refl : ∀ ds : List D, flatDs ds = true → PyData.eqvAll (pyDs ds) (pyDs ds) = true
  | [], _ => rfl
  | d :: ds, h => by
    have h' : (flatD d && flatDs ds) = true := h
    rw [Bool.and_eq_true] at h'
    show (PyData.eqv (pyD d) (pyD d) && PyData.eqvAll (pyDs ds) (pyDs ds)) = true
    rw [eqv_refl d h'.1, eqvs_refl ds h'.2]
    rfl
end
theorem eqD_refl {d : D} (h : flatD d = true) : eqD d d = true := eqv_refl d h
theorem flat_ints : ∀ l : List Int, flatDs (l.map enc) = true
  | [] => rfl
  | i :: l => by show (flatD (.int i) && flatDs (l.map enc)) = true; rw [flat_ints l]; rfl

mutual
/-- data that may be compared: no dict, texts plain, not deep -/
def eqOk (n : Nat) : D → Bool
  | .lst ds => match n with | 0 => false | n + 1 => eqOks n ds
  | .tup ds => match n with | 0 => false | n + 1 => eqOks n ds
  | .dic _ => false
  | .str x => PyData.strOk x
  | _ => true
def eqOks (n : Nat) : List D → Bool
  | [] => true
  | d :: ds => eqOk n d && eqOks n ds
end
mutual
theorem eqOk_flat : ∀ (d : D) (n : Nat), eqOk n d = true → flatD d = true ∧ (pyD d).canLay0 = true ∧ (pyD d).depth ≤ n
  | .non, _, _ => ⟨rfl, rfl, Nat.zero_le _⟩
  | .bl _, _, _ => ⟨rfl, rfl, Nat.zero_le _⟩
  | .int _, _, _ => ⟨rfl, rfl, Nat.zero_le _⟩
  | .str _, _, h => ⟨rfl, h, Nat.zero_le _⟩
  | .lst ds, n + 1, h => let ⟨a, b, c⟩ := eqOks_flat ds n h; ⟨a, b, Nat.succ_le_succ c⟩
  | .tup ds, n + 1, h => let ⟨a, b, c⟩ := eqOks_flat ds n h; ⟨a, b, Nat.succ_le_succ c⟩
  | .lst _, 0, h => nomatch h
  | .tup _, 0, h => nomatch h
  | .dic _, _, h => nomatch h
theorem eqOks_flat : ∀ (ds : List D) (n : Nat), eqOks n ds = true → flatDs ds = true ∧ PyData.canLayAll0 (pyDs ds) = true ∧ PyData.depthAll (pyDs ds) ≤ n
  | [], _, _ => ⟨rfl, rfl, Nat.zero_le _⟩
  | d :: ds, n, h => by
    have h' : (eqOk n d && eqOks n ds) = true := h
    rw [Bool.and_eq_true] at h'
    obtain ⟨a, b, c⟩ := eqOk_flat d n h'.1
    obtain ⟨a', b', c'⟩ := eqOks_flat ds n h'.2
    refine ⟨?_, ?_, ?_⟩
    · show (flatD d && flatDs ds) = true; rw [a, a']; rfl
    · show (PyData.canLay0 (pyD d) && PyData.canLayAll0 (pyDs ds)) = true; rw [b, b']; rfl
    · exact Nat.max_le.mpr ⟨c, c'⟩
end
theorem okEq_of {d e : D} (h : eqOk 20 d = true) (h' : eqOk 20 e = true) : okEq d e := by
  obtain ⟨a, b, c⟩ := eqOk_flat d 20 h
  obtain ⟨a', b', c'⟩ := eqOk_flat e 20 h'
  refine ⟨a, a', ?_, ?_⟩
  · unfold SeqAt.shaped; rw [b, decide_eq_true (Nat.le_trans c (by decide))]; rfl
  · unfold SeqAt.shaped; rw [b', decide_eq_true (Nat.le_trans c' (by decide))]; rfl
theorem eqOk_ints : ∀ (l : List Int) (n : Nat), eqOks n (l.map enc) = true
  | [], _ => rfl
  | i :: l, n => by show (eqOk n (.int i) && eqOks n (l.map enc)) = true; rw [eqOk_ints l n]; rfl
/-- a comprehension without a state whose turns give values -/
theorem compL_map {α β : Type} {f : α → Unit → Res (Option β × Unit)} {g : α → β} : ∀ {l : List α}, (∀ x ∈ l, f x () = .ok (some (g x), ())) → compL l () f = .ok (l.map g, ())
  | [], _ => rfl
  | x :: xs, h => by
    unfold compL
    rw [h x List.mem_cons_self]
    show ((compL xs () f).bind fun q => .ok (g x :: q.1, q.2)) = _
    rw [compL_map fun y m => h y (List.mem_cons_of_mem _ m)]
    rfl
theorem compR_map {α β : Type} {f : α → Unit → Res (Option β × Unit)} {g : α → β} {l : List α} (hl : l.length ≤ 1000000) (h : ∀ x ∈ l, f x () = .ok (some (g x), ())) : compR l () f = .ok (l.map g, ()) := by
  unfold compR guardR
  rw [if_pos hl, compL_map h]
def smallD (d : D) : Prop := match d with | .lst ds => ds.length ≤ 1000000 | _ => True
end Y

set_option Elab.async false
set_option linter.all false
set_option maxRecDepth 100000
set_option maxHeartbeats 2000000
namespace A
open PySem PySem.Spec PyProof.Rows L2 Y
open Y.Enc (enc)
/-- a state of draws -/
def Gd (st : List Int) : Prop := st.length = 1 ∨ st.length = 3
theorem setR_in {α : Type} {l : List α} {i : Int} {x : α} (h0 : 0 ≤ i) (h1 : i < (l.length : Int)) : setR l i x = .ok (l.set i.toNat x) := by
  unfold setR
  have e : ixN l.length i = some i.toNat := by unfold ixN; rw [if_pos h0, if_pos h1]
  rw [e]
theorem Ok.set {α β : Type} {l : List α} {i : Int} {x : α} {k : List α → Res β} {ψ : β → Prop} (h0 : 0 ≤ i) (h1 : i < (l.length : Int)) (h : ∀ l', l'.length = l.length → Ok (k l') ψ) : Ok ((setR l i x).bind k) ψ := by
  rw [setR_in h0 h1]
  exact h _ (List.length_set ..)
theorem digit_ok {st : List Int} {b : Int} (h : Gd st) (hb : 0 < b) (hb2 : b.natAbs < 2 ^ 4000) : Ok (l_digit st b) fun r => (0 ≤ r.1 ∧ r.1 < b) ∧ r.2.length = 3 := by
  unfold l_digit
  refine Ok.bind (φ := fun l => l.length = 3) (Ok.ite (fun c => ?_) (fun c => ?_)) fun l hl => ?_
  · have e : st.length = 1 := by have := of_decide_eq_true c; omega
    refine Ok.ix (by decide) (by omega) fun x _ _ => Ok.guard (by simp [e]) (Ok.pure (by simp [e]))
  · have e : ¬ (st.length : Int) = 1 := of_decide_eq_false c
    refine Ok.pure ?_
    rcases h with h | h
    · exact absurd (by omega) e
    · exact h
  refine Ok.ix (by decide) (by omega) fun x _ _ => Ok.ite (fun c => ?_) (fun c => ?_)
  · refine Ok.ix (by decide) (by omega) fun y _ _ => Ok.guard hb (Ok.lt (Ok.ix (by decide) (by omega) fun z _ _ => Ok.guard (divW hb hb2) (Ok.set (by decide) (by omega) fun l' e => Ok.pure ⟨⟨Int.emod_nonneg _ (Int.ne_of_gt hb), Int.emod_lt_of_pos _ hb⟩, e.trans hl⟩)))
  · refine Ok.ix (by decide) (by omega) fun y _ _ => Ok.set (by decide) (by omega) fun l' e => Ok.ix (by decide) (by omega) fun z _ _ => Ok.ix (by decide) (by omega) fun u _ _ => Ok.lt ?_
    generalize hn : (((z + 7919 * u) + 1) * 48271) % 2147483647 = n
    have hn1 : 0 ≤ n ∧ n < 2147483647 := by subst hn; exact ⟨Int.emod_nonneg _ (by decide), Int.emod_lt_of_pos _ (by decide)⟩
    refine Ok.guard (mulW (a := 32) (b := 32) (by omega) (by omega)) (Ok.lt ?_)
    generalize hm : (n * (n / 1009 + 69621)) % 2147483647 = m
    have hm1 : 0 ≤ m ∧ m < 2147483647 := by subst hm; exact ⟨Int.emod_nonneg _ (by decide), Int.emod_lt_of_pos _ (by decide)⟩
    refine Ok.guard (mulW (a := 32) (b := 32) (by omega) (by omega)) (Ok.guard hb (Ok.pure ⟨⟨Int.emod_nonneg _ (Int.ne_of_gt hb), Int.emod_lt_of_pos _ hb⟩, e.trans hl⟩))
theorem gd3 {st : List Int} (h : st.length = 3) : Gd st := .inr h
/-- a draw -/
theorem dg {β : Type} {st : List Int} {b : Int} {k : Int × List Int → Res β} {ψ : β → Prop} (h : Gd st) (hb : 0 < b) (hb2 : b.natAbs < 2 ^ 4000) (hk : ∀ x s, 0 ≤ x → x < b → s.length = 3 → Ok (k (x, s)) ψ) : Ok ((l_digit st b).bind k) ψ :=
  Ok.bind (digit_ok h hb hb2) fun r p => hk r.1 r.2 p.1.1 p.1.2 p.2
theorem big {b : Int} {n : Nat} (h : b.natAbs < 2 ^ n) (hn : n ≤ 4000) : b.natAbs < 2 ^ 4000 := Nat.lt_of_lt_of_le h (Nat.pow_le_pow_right (by decide) hn)
theorem bg {b : Int} (h : b.natAbs < 18446744073709551616) : b.natAbs < 2 ^ 4000 := big (n := 64) h (by decide)
end A

set_option Elab.async false
set_option linter.all false
set_option maxRecDepth 100000
set_option maxHeartbeats 2000000
namespace A
open PySem PySem.Spec PyProof.Rows L2 Y
open Y.Enc (enc)
theorem abs_eq (i : Int) : absI i = (i.natAbs : Int) := by unfold absI; split <;> omega
def euF : Int × Int → Res (Fl (Int × Int) Int) := fun a12 => (if (decide (0 < a12.2)) = true then guardR (0 < a12.2) <| lt ((a12.1 % a12.2) : Int) fun x16 => (.ok (.nx (a12.2, x16)) : Res (Fl (Int × Int) Int)) else .ok (.bk (a12.1, a12.2)))
theorem euclid (n : Nat) : ∀ a b : Nat, b < n → whileR n ((a : Int), (b : Int)) euF = .ok (.bk (((Nat.gcd a b : Nat) : Int), 0)) := by
  induction n with
  | zero => intro a b h; omega
  | succ n ih =>
    intro a b h
    unfold whileR
    by_cases hb : 0 < (b : Int)
    · have e1 : euF ((a : Int), (b : Int)) = .ok (.nx ((b : Int), (a : Int) % (b : Int))) := by
        unfold euF
        rw [if_pos (decide_eq_true hb)]
        unfold guardR
        rw [if_pos hb]
        rfl
      rw [e1]
      show whileR n ((b : Int), (a : Int) % (b : Int)) _ = _
      have e : (a : Int) % (b : Int) = ((a % b : Nat) : Int) := (Int.natCast_emod a b).symm
      rw [e, ih b (a % b) (by have := Nat.mod_lt a (show b > 0 by omega); omega)]
      rw [Nat.gcd_comm a b, Nat.gcd_rec b a, Nat.gcd_comm]
    · have : b = 0 := by omega
      subst this
      simp [euF]
      rfl
theorem div_ok (a b : Int) : m_divisor a b = .ok (Int.gcd a b : Int) := by
  have e0 : m_divisor a b = (whileR ((absI b).natAbs + 1) (absI a, absI b) euF).bind (afterR fun a17 => .ok a17.1) := rfl
  rw [e0, abs_eq, abs_eq, Int.natAbs_natCast, euclid (b.natAbs + 1) a.natAbs b.natAbs (by omega)]
  rfl
theorem frac_facts {a b : Int} (hb : b ≠ 0) : ∃ s : Int, (if b < 0 then -(Int.gcd a b : Int) else (Int.gcd a b : Int)) = s ∧ s ≠ 0 ∧ s.natAbs ≤ b.natAbs ∧ Int.fdiv a s * s = a ∧ Int.fdiv b s * s = b ∧ 0 < Int.fdiv b s ∧ Int.gcd (Int.fdiv a s) (Int.fdiv b s) = 1 := by
  have hg : 0 < Int.gcd a b := Int.gcd_pos_of_ne_zero_right a hb
  have ha' : ((Int.gcd a b : Nat) : Int) ∣ a := Int.gcd_dvd_left ..
  have hb' : ((Int.gcd a b : Nat) : Int) ∣ b := Int.gcd_dvd_right ..
  generalize hG : Int.gcd a b = g at *
  refine ⟨_, rfl, ?_⟩
  obtain ⟨p, ep⟩ := ha'
  obtain ⟨q, eq⟩ := hb'
  have hgn : (g : Int) ≠ 0 := by omega
  have hpq : Int.gcd p q = 1 := by
    have e : Int.gcd ((g : Int) * p) ((g : Int) * q) = g := by rw [← ep, ← eq]; exact hG
    rw [Int.gcd_mul_left] at e
    have e2 : g * Int.gcd p q = g * 1 := by simpa using e
    exact Nat.eq_of_mul_eq_mul_left hg e2
  have hle : g ≤ b.natAbs := by
    rw [eq, Int.natAbs_mul]
    have : 0 < q.natAbs := Int.natAbs_pos.mpr (by rintro rfl; exact hb (by rw [eq]; simp))
    simpa using Nat.le_mul_of_pos_right g this
  by_cases hn : b < 0
  · rw [if_pos hn]
    have e1 : a = -p * -(g : Int) := by rw [ep, Int.neg_mul_neg, Int.mul_comm]
    have e2 : b = -q * -(g : Int) := by rw [eq, Int.neg_mul_neg, Int.mul_comm]
    have d1 : Int.fdiv a (-(g : Int)) = -p := by rw [e1]; exact Int.mul_fdiv_cancel _ (by omega)
    have d2 : Int.fdiv b (-(g : Int)) = -q := by rw [e2]; exact Int.mul_fdiv_cancel _ (by omega)
    rw [d1, d2]
    refine ⟨by omega, by omega, e1.symm, e2.symm, ?_, by simpa using hpq⟩
    rcases Int.lt_or_le q 0 with h | h
    · omega
    · have := Int.mul_nonneg (show (0 : Int) ≤ g by omega) h
      rw [← eq] at this
      exact absurd hn (by omega)
  · rw [if_neg hn]
    have e1 : a = p * (g : Int) := by rw [ep, Int.mul_comm]
    have e2 : b = q * (g : Int) := by rw [eq, Int.mul_comm]
    have d1 : Int.fdiv a (g : Int) = p := by rw [e1]; exact Int.mul_fdiv_cancel _ hgn
    have d2 : Int.fdiv b (g : Int) = q := by rw [e2]; exact Int.mul_fdiv_cancel _ hgn
    rw [d1, d2]
    refine ⟨hgn, by omega, e1.symm, e2.symm, ?_, hpq⟩
    rcases Int.lt_or_le 0 q with h | h
    · exact h
    · have := Int.mul_nonneg (show (0 : Int) ≤ g by omega) (show 0 ≤ -q by omega)
      rw [Int.mul_neg, ← eq] at this
      exact absurd hn (by omega)
/-- the fraction of a by b, in lowest terms -/
def FracOf (a b : Int) (f : Tp2 Int Int) : Prop := 0 < f.b ∧ Int.gcd f.a f.b = 1 ∧ f.a * b = a * f.b ∧ f.a.natAbs ≤ a.natAbs ∧ f.b.natAbs ≤ b.natAbs
theorem natAbs_le_of_mul {x s a : Int} (h : x * s = a) (hs : s ≠ 0) : x.natAbs ≤ a.natAbs := by
  rw [← h, Int.natAbs_mul]
  exact Nat.le_mul_of_pos_right _ (by omega)
/-- what both places are shared by -/
def shr (a b : Int) : Int := if b < 0 then -(Int.gcd a b : Int) else (Int.gcd a b : Int)
def lowT (a b : Int) : Tp2 Int Int := ⟨Int.fdiv a (shr a b), Int.fdiv b (shr a b)⟩
theorem shr_small {a b : Int} (hb : b ≠ 0) : shr a b ≠ 0 ∧ (shr a b).natAbs ≤ b.natAbs := by
  obtain ⟨s, e, h0, h1, _⟩ := frac_facts (a := a) hb
  unfold shr
  rw [e]
  exact ⟨h0, h1⟩
theorem lowT_of {a b : Int} (hb : b ≠ 0) : FracOf a b (lowT a b) := by
  obtain ⟨s, e, h0, h1, h2, h3, h4, h5⟩ := frac_facts (a := a) hb
  have es : shr a b = s := e
  unfold lowT
  rw [es]
  refine ⟨h4, h5, ?_, natAbs_le_of_mul h2 h0, natAbs_le_of_mul h3 h0⟩
  show Int.fdiv a s * b = a * Int.fdiv b s
  conv => lhs; rw [← h3]
  conv => rhs; rw [← h2]
  simp only [Int.mul_comm, Int.mul_left_comm, Int.mul_assoc]
theorem shr_log {a b : Int} (hb : b ≠ 0) (hs : b.natAbs < 2 ^ 300) : (shr a b).natAbs.log2 < 9000 := Nat.lt_of_lt_of_le (log2_small (b := 300) (Nat.lt_of_le_of_lt (shr_small hb).2 hs) (by decide)) (by decide)
theorem shr_bind {β : Type} {a b : Int} {k : Int → Res β} : ((if (decide (b < 0)) = true then lt ((-(Int.gcd a b : Int)) : Int) fun x28 => .ok x28 else .ok (Int.gcd a b : Int)) : Res (Int)).bind k = k (shr a b) := by
  unfold shr
  by_cases hn : b < 0
  · rw [if_pos (decide_eq_true hn), if_pos hn]; rfl
  · rw [if_neg (by simpa using hn), if_neg hn]; rfl
theorem fraction_eq {a b : Int} (hb : b ≠ 0) (hs : b.natAbs < 2 ^ 300) : m_fraction (.int a) (.int b) = .ok (lowT a b) := by
  have r : m_fraction (.int a) (.int b) = guardR (okEq (.int b) (enc (0 : Int))) (if (eqD (.int b) (enc (0 : Int))) = true then .err ⟨"NoFraction", []⟩ else ((m_divisor a b).noErr).bind fun x19 => ((if (decide (b < 0)) = true then lt ((-x19) : Int) fun x28 => .ok x28 else .ok x19) : Res (Int)).bind fun a29 => guardR (CDivZ a a29) <| guardR (CDivZ b a29) <| .ok (⟨(Int.fdiv a a29), (Int.fdiv b a29)⟩ : (Tp2 Int Int))) := rfl
  rw [r]
  unfold guardR
  rw [if_pos (okEq_of rfl rfl), if_neg (show ¬ (eqD (.int b) (enc (0 : Int)) = true) from fun h => hb (of_decide_eq_true h)), div_ok]
  show (((if (decide (b < 0)) = true then lt ((-(Int.gcd a b : Int)) : Int) fun x28 => .ok x28 else .ok (Int.gcd a b : Int)) : Res (Int)).bind _) = _
  rw [shr_bind, if_pos ⟨(shr_small hb).1, shr_log hb hs⟩, if_pos ⟨(shr_small hb).1, shr_log hb hs⟩]
  rfl
theorem dvd_of_cop {q p r : Int} (h : q ∣ p * r) (hg : Int.gcd p q = 1) : q ∣ r := by
  have h1 : q.natAbs ∣ p.natAbs * r.natAbs := by rw [← Int.natAbs_mul]; exact Int.natAbs_dvd_natAbs.mpr h
  have h2 : Nat.Coprime q.natAbs p.natAbs := (Nat.gcd_comm ..).trans hg
  exact Int.natAbs_dvd_natAbs.mp (Nat.Coprime.dvd_of_dvd_mul_left h2 h1)
theorem uniq {p q p' q' : Int} (h : p * q' = p' * q) (hg : Int.gcd p q = 1) (hg' : Int.gcd p' q' = 1) (hq : 0 < q) (hq' : 0 < q') : p = p' ∧ q = q' := by
  have d1 : q ∣ q' := dvd_of_cop ⟨p', by rw [h, Int.mul_comm]⟩ hg
  have d2 : q' ∣ q := dvd_of_cop ⟨p, by rw [← h, Int.mul_comm]⟩ hg'
  have e : q = q' := Int.dvd_antisymm (by omega) (by omega) d1 d2
  subst e
  exact ⟨Int.eq_of_mul_eq_mul_right (by omega) h, rfl⟩
/-- in lowest terms -/
def Low (f : Tp2 Int Int) : Prop := 0 < f.b ∧ Int.gcd f.a f.b = 1
theorem low_eq {f : Tp2 Int Int} {a b : Int} (hf : Low f) (hb : b ≠ 0) (h : f.a * b = a * f.b) : lowT a b = f := by
  obtain ⟨h1, h2, h3, _, _⟩ := lowT_of (a := a) hb
  generalize lowT a b = g at *
  obtain ⟨p, q⟩ := g
  obtain ⟨u, v⟩ := f
  obtain ⟨hv, hg⟩ := hf
  simp only at *
  have e : p * v = u * q := by
    apply Int.eq_of_mul_eq_mul_right hb
    grind
  obtain ⟨rfl, rfl⟩ := uniq e h2 hg h1 hv
  rfl
end A

set_option Elab.async false
set_option linter.all false
set_option maxRecDepth 100000
set_option maxHeartbeats 2000000
namespace A
open PySem PySem.Spec PyProof.Rows L2 Y
open Y.Enc (enc)
theorem great_ok {st : List Int} (h : Gd st) : Ok (l_great st 4) fun r => (0 ≤ r.1 ∧ r.1 < 10 ^ 22) ∧ r.2.length = 3 := by
  unfold l_great
  have step : ∀ (x : Int) (a : Int × List Int), Gd a.2 → (0 ≤ a.1) → Ok ((l_digit a.2 (100000 + 3)).bind fun x36 => lt (((a.1 * 100000) + x36.1) : Int) fun x42 => (.ok (.nx (x42, x36.2)) : Res (Fl (Int × List Int) (Int × List Int)))) fun r => ∃ s', r = .nx s' ∧ s'.2.length = 3 ∧ 0 ≤ s'.1 ∧ s'.1 < a.1 * 100000 + 100003 := fun x a g ha =>
    dg g (by decide) (bg (by decide)) fun y s h0 h1 hs => Ok.lt ⟨_, rfl, _, rfl, hs, by show 0 ≤ a.1 * 100000 + y; omega, by show a.1 * 100000 + y < _; omega⟩
  refine dg h (by decide) (bg (by decide)) fun x6 s6 a6 b6 h6 => Ok.ixm a6 b6 fun x16 m => ?_
  simp only [List.mem_cons, List.not_mem_nil, or_false] at m
  refine Ok.guard (by omega) (Ok.bind (φ := fun r => ∃ s', r = .nx s' ∧ s'.2.length = 3 ∧ 0 ≤ s'.1 ∧ s'.1 < 10 ^ 22) ?_ ?_)
  · rcases m with rfl | rfl
    · have e : rngI 0 2 = [0, 1] := rfl
      rw [e]
      refine Ok.bind (step 0 (0, s6) (gd3 h6) (Int.le_refl 0)) ?_
      rintro _ ⟨⟨a1, s1⟩, rfl, h1, p1, q1⟩
      refine Ok.bind (step 1 (a1, s1) (gd3 h1) p1) ?_
      rintro _ ⟨⟨a2, s2⟩, rfl, h2, p2, q2⟩
      refine ⟨_, rfl, _, rfl, h2, p2, ?_⟩
      simp only at *
      omega
    · have e : rngI 0 4 = [0, 1, 2, 3] := rfl
      rw [e]
      refine Ok.bind (step 0 (0, s6) (gd3 h6) (Int.le_refl 0)) ?_
      rintro _ ⟨⟨a1, s1⟩, rfl, h1, p1, q1⟩
      refine Ok.bind (step 1 (a1, s1) (gd3 h1) p1) ?_
      rintro _ ⟨⟨a2, s2⟩, rfl, h2, p2, q2⟩
      refine Ok.bind (step 2 (a2, s2) (gd3 h2) p2) ?_
      rintro _ ⟨⟨a3, s3⟩, rfl, h3, p3, q3⟩
      refine Ok.bind (step 3 (a3, s3) (gd3 h3) p3) ?_
      rintro _ ⟨⟨a4, s4⟩, rfl, h4, p4, q4⟩
      refine ⟨_, rfl, _, rfl, h4, p4, ?_⟩
      simp only at *
      omega
  · rintro _ ⟨⟨a, s⟩, rfl, hs, p, q⟩
    exact Ok.pure ⟨⟨p, q⟩, hs⟩
theorem lowest_eq {a b : Int} (hb : b ≠ 0) (hs : b.natAbs < 2 ^ 300) : l_lowest a b = .ok (lowT a b) := by
  unfold l_lowest
  have e : l_shared a b = .ok (Int.gcd a b : Int) := div_ok a b
  rw [e]
  show (((if (decide (b < 0)) = true then lt ((0 - (Int.gcd a b : Int)) : Int) fun x10 => .ok x10 else .ok (Int.gcd a b : Int)) : Res (Int)).bind _) = _
  rw [Int.zero_sub, shr_bind]
  unfold guardR
  rw [if_pos ⟨(shr_small hb).1, shr_log hb hs⟩, if_pos ⟨(shr_small hb).1, shr_log hb hs⟩]
  rfl
/-- in lowest terms, of at most 80 bits -/
def Lw (f : Tp2 Int Int) : Prop := Low f ∧ f.a.natAbs < 2 ^ 80 ∧ f.b.natAbs < 2 ^ 80
theorem lw_of {a b : Int} (hb : b ≠ 0) (h1 : a.natAbs < 2 ^ 80) (h2 : b.natAbs < 2 ^ 80) : Lw (lowT a b) :=
  have h := lowT_of (a := a) hb
  ⟨⟨h.1, h.2.1⟩, Nat.lt_of_le_of_lt h.2.2.2.1 h1, Nat.lt_of_le_of_lt h.2.2.2.2 h2⟩
theorem s80 {x : Int} (h : x.natAbs < 2 ^ 80) : x.natAbs < 2 ^ 300 := Nat.lt_of_lt_of_le h (by decide)
theorem drawn_ok {st : List Int} (h : Gd st) : Ok (l_drawn st) fun r => Lw r.1 ∧ r.2.length = 3 := by
  unfold l_drawn
  refine dg h (by decide) (bg (by decide)) fun x1 s1 a1 b1 h1 => Ok.ixm a1 b1 fun z m => ?_
  refine Ok.bind (great_ok (gd3 h1)) fun ⟨g, s2⟩ ⟨⟨p, q⟩, h2⟩ => ?_
  have hz : z = 1 ∨ z = -1 ∨ z = 0 := by simpa using m
  simp only at p q
  refine Ok.guard (mulW (a := 2) (b := 80) (by rcases hz with rfl | rfl | rfl <;> decide) (by omega)) (Ok.lt ?_)
  refine dg (gd3 h2) (by decide) (bg (by decide)) fun x3 s3 a3 b3 h3 => ?_
  refine dg (gd3 h3) (by decide) (bg (by decide)) fun x4 s4 a4 b4 h4 => ?_
  refine Ok.ixm (by show 0 ≤ x4 / 2; omega) (by show x4 / 2 < 2; omega) fun t m2 => ?_
  refine Ok.bind (great_ok (gd3 h4)) fun ⟨g2, s5⟩ ⟨⟨p2, q2⟩, h5⟩ => ?_
  simp only at p2 q2
  have ht : t.natAbs < 2 ^ 80 := by
    have : t = z * g ∨ t = x3 := by simpa using m2
    rcases this with rfl | rfl
    · rcases hz with rfl | rfl | rfl <;> omega
    · omega
  exact Ok.bindE (lowest_eq (by omega) (by omega)) (Ok.pure ⟨lw_of (by omega) ht (by omega), h5⟩)
theorem second_ok {st : List Int} {f : Tp2 Int Int} (h : Gd st) (hf : Lw f) : Ok (l_second st f) fun r => Lw r.1 ∧ r.2.length = 3 := by
  unfold l_second
  obtain ⟨p, q⟩ := f
  obtain ⟨⟨f1, f2⟩, f3, f4⟩ := hf
  simp only at f1 f2 f3 f4
  refine Ok.bind (drawn_ok h) fun ⟨r, s1⟩ ⟨hr, h1⟩ => ?_
  refine dg (gd3 h1) (by decide) (bg (by decide)) fun x3 s3 a3 b3 h3 => ?_
  refine Ok.ite (fun _ => Ok.pure ⟨⟨⟨f1, f2⟩, f3, f4⟩, h3⟩) fun _ => Ok.ite (fun _ => Ok.pure ⟨⟨⟨f1, ?_⟩, ?_, f4⟩, h3⟩) fun _ => ?_
  · show Int.gcd (0 - p) q = 1
    rw [Int.zero_sub]
    simpa using f2
  · show (0 - p).natAbs < 2 ^ 80
    omega
  refine Ok.bind (φ := fun b => b = true → p ≠ 0) (Ok.ite (fun _ => Ok.pure (fun e => by simpa using e)) (fun _ => Ok.pure (fun e => nomatch e))) fun b hb => Ok.ite (fun c => ?_) fun _ => Ok.ite (fun _ => ?_) fun _ => Ok.pure ⟨hr, h3⟩
  · exact Ok.bindE (lowest_eq (hb c) (s80 f3)) (Ok.pure ⟨lw_of (hb c) f4 f3, h3⟩)
  · exact Ok.bindE (lowest_eq (by show q ≠ 0; omega) (s80 f4)) (Ok.pure ⟨lw_of (by show q ≠ 0; omega) hr.2.1 f4, h3⟩)
theorem alike_ok {a b : Int} (hb : b ≠ 0) (hs : b.natAbs < 2 ^ 300) : l_alike (enc (lowT a b)) a b = .ok true := by
  have e : l_alike (enc (lowT a b)) a b = (l_lowest a b).bind fun x35 => guardR (okEq (enc (lowT a b)) (enc x35)) <| .ok (eqD (enc (lowT a b)) (enc x35)) := rfl
  rw [e, lowest_eq hb hs]
  show guardR (okEq (enc (lowT a b)) (enc (lowT a b))) (.ok (eqD (enc (lowT a b)) (enc (lowT a b)))) = _
  unfold guardR
  rw [if_pos (okEq_of rfl rfl), eqD_refl rfl]
theorem m2 {x y : Int} {m n : Nat} (h : x.natAbs < 2 ^ m) (h' : y.natAbs < 2 ^ n) : (x * y).natAbs < 2 ^ (m + n) := L2.wide_lt h h'
theorem up {x : Int} {m n : Nat} (h : x.natAbs < 2 ^ m) (hm : m ≤ n) : x.natAbs < 2 ^ n := Nat.lt_of_lt_of_le h (Nat.pow_le_pow_right (by decide) hm)
theorem sum2 {x y : Int} {m : Nat} (h : x.natAbs < 2 ^ m) (h' : y.natAbs < 2 ^ m) : (x + y).natAbs < 2 ^ (m + 1) := by rw [Nat.pow_succ]; omega
theorem dif2 {x y : Int} {m : Nat} (h : x.natAbs < 2 ^ m) (h' : y.natAbs < 2 ^ m) : (x - y).natAbs < 2 ^ (m + 1) := by rw [Nat.pow_succ]; omega
theorem cw {x y : Int} {m n : Nat} (h : x.natAbs < 2 ^ m) (h' : y.natAbs < 2 ^ n) (h0 : 0 < m := by decide) (h1 : 0 < n := by decide) (h2 : m + n ≤ 1000000 := by decide) : CMulW x y := mulW h h' h0 h1 h2
theorem plus_eq {f g : Tp2 Int Int} (f1 : f.a.natAbs < 2 ^ 200) (f2 : f.b.natAbs < 2 ^ 200) (g1 : g.a.natAbs < 2 ^ 80) (g2 : g.b.natAbs < 2 ^ 80) (h : f.b * g.b ≠ 0) : m_plus f g = .ok (lowT (f.a * g.b + g.a * f.b) (f.b * g.b)) := by
  have e : m_fraction (enc ((f.a * g.b) + (g.a * f.b) : Int)) (enc (f.b * g.b : Int)) = .ok (lowT (f.a * g.b + g.a * f.b) (f.b * g.b)) := fraction_eq h (up (m2 f2 g2) (by decide))
  unfold m_plus guardR
  rw [if_pos (cw f1 g2), if_pos (cw g1 f2), if_pos (cw f2 g2), e]
  rfl
theorem minus_eq {f g : Tp2 Int Int} (f1 : f.a.natAbs < 2 ^ 200) (f2 : f.b.natAbs < 2 ^ 200) (g1 : g.a.natAbs < 2 ^ 80) (g2 : g.b.natAbs < 2 ^ 80) (h : f.b * g.b ≠ 0) : m_minus f g = .ok (lowT (f.a * g.b - g.a * f.b) (f.b * g.b)) := by
  have e : m_fraction (enc ((f.a * g.b) - (g.a * f.b) : Int)) (enc (f.b * g.b : Int)) = .ok (lowT (f.a * g.b - g.a * f.b) (f.b * g.b)) := fraction_eq h (up (m2 f2 g2) (by decide))
  unfold m_minus guardR
  rw [if_pos (cw f1 g2), if_pos (cw g1 f2), if_pos (cw f2 g2), e]
  rfl
theorem times_eq {f g : Tp2 Int Int} (f1 : f.a.natAbs < 2 ^ 200) (f2 : f.b.natAbs < 2 ^ 200) (g1 : g.a.natAbs < 2 ^ 80) (g2 : g.b.natAbs < 2 ^ 80) (h : f.b * g.b ≠ 0) : m_times f g = .ok (lowT (f.a * g.a) (f.b * g.b)) := by
  have e : m_fraction (enc (f.a * g.a : Int)) (enc (f.b * g.b : Int)) = .ok (lowT (f.a * g.a) (f.b * g.b)) := fraction_eq h (up (m2 f2 g2) (by decide))
  unfold m_times guardR
  rw [if_pos (cw f1 g1), if_pos (cw f2 g2), e]
  rfl
theorem shared_eq {f g : Tp2 Int Int} (f1 : f.a.natAbs < 2 ^ 200) (f2 : f.b.natAbs < 2 ^ 200) (g1 : g.a.natAbs < 2 ^ 80) (g2 : g.b.natAbs < 2 ^ 80) (h0 : g.a ≠ 0) (h : f.b * g.a ≠ 0) : m_shared f g = .ok (lowT (f.a * g.b) (f.b * g.a)) := by
  have e : m_fraction (enc (f.a * g.b : Int)) (enc (f.b * g.a : Int)) = .ok (lowT (f.a * g.b) (f.b * g.a)) := fraction_eq h (up (m2 f2 g1) (by decide))
  unfold m_shared guardR
  rw [if_neg (by simpa using h0), if_pos (cw f1 g2), if_pos (cw f2 g1), e]
  rfl
theorem shared_no {f g : Tp2 Int Int} (h0 : g.a = 0) : m_shared f g = .err ⟨"NoFraction", []⟩ := by
  unfold m_shared
  rw [if_pos (decide_eq_true h0)]
theorem share_right_ok {l r : Tp2 Int Int} (hl : Lw l) (hr : Lw r) : l_share_right l r = .ok true := by
  obtain ⟨⟨l1, l2⟩, l3, l4⟩ := hl
  obtain ⟨⟨r1, r2⟩, r3, r4⟩ := hr
  unfold l_share_right
  by_cases h0 : r.a = 0
  · rw [shared_no h0]
    show (if (decide (r.a = 0)) = true then (if true = true then (.ok true : Res Bool) else .ok false) else _) = _
    rw [if_pos (decide_eq_true h0)]
    rfl
  · have hb : l.b * r.a ≠ 0 := Int.mul_ne_zero (by omega) h0
    rw [shared_eq (up l3 (by decide)) (up l4 (by decide)) r3 r4 h0 hb]
    show (if (decide (r.a = 0)) = true then _ else guardR _ <| guardR _ <| (l_alike (enc (lowT (l.a * r.b) (l.b * r.a))) (l.a * r.b) (l.b * r.a)).bind fun x56 => (.ok x56 : Res Bool)) = _
    unfold guardR
    rw [if_neg (by simpa using h0), if_pos (cw l3 r4), if_pos (cw l4 r3), alike_ok hb (up (m2 l4 r3) (by decide))]
    rfl
theorem noErr_ok {α : Type} {m : Res α} {a : α} (h : m = .ok a) : m.noErr = .ok a := by rw [h]; rfl
theorem all_right_ok {l r : Tp2 Int Int} (hl : Lw l) (hr : Lw r) : Ok (l_all_right l r) fun b => b = true := by
  have hs := share_right_ok hl hr
  have hl0 := hl
  obtain ⟨⟨l1, l2⟩, l3, l4⟩ := hl
  obtain ⟨⟨r1, r2⟩, r3, r4⟩ := hr
  have lu := up (n := 200) l3 (by decide)
  have lv := up (n := 200) l4 (by decide)
  have hb : l.b * r.b ≠ 0 := Int.mul_ne_zero (by omega) (by omega)
  have bb : (l.b * r.b).natAbs < 2 ^ 300 := up (m2 l4 r4) (by decide)
  unfold l_all_right
  refine Ok.guard (cw l4 r4) (Ok.lt (Ok.bindE (noErr_ok (plus_eq lu lv r3 r4 hb)) ?_))
  refine Ok.guard (cw l3 r4) (Ok.guard (cw r3 l4) (Ok.bindE (alike_ok hb bb) (Ok.iteT rfl ?_)))
  refine Ok.bindE (noErr_ok (minus_eq lu lv r3 r4 hb)) (Ok.guard (cw l3 r4) (Ok.guard (cw r3 l4) (Ok.bindE (alike_ok hb bb) (Ok.iteT rfl ?_))))
  refine Ok.bindE (noErr_ok (times_eq lu lv r3 r4 hb)) (Ok.guard (cw l3 r3) (Ok.bindE (alike_ok hb bb) (Ok.iteT rfl (Ok.bindE hs (Ok.iteT rfl ?_)))))
  refine Ok.bindE (noErr_ok (plus_eq lu lv r3 r4 hb)) ?_
  obtain ⟨p1, p2, p3, p4, p5⟩ := lowT_of (a := l.a * r.b + r.a * l.b) hb
  have p6 : (lowT (l.a * r.b + r.a * l.b) (l.b * r.b)).a.natAbs < 2 ^ 200 := Nat.lt_of_le_of_lt p4 (up (sum2 (m2 l3 r4) (m2 r3 l4)) (by decide))
  have p7 : (lowT (l.a * r.b + r.a * l.b) (l.b * r.b)).b.natAbs < 2 ^ 200 := Nat.lt_of_le_of_lt p5 (up (m2 l4 r4) (by decide))
  generalize lowT (l.a * r.b + r.a * l.b) (l.b * r.b) = f at *
  have hv : f.b * r.b ≠ 0 := Int.mul_ne_zero (by omega) (by omega)
  have e1 : lowT (f.a * r.b - r.a * f.b) (f.b * r.b) = l := low_eq ⟨l1, l2⟩ hv (by grind)
  refine Ok.bindE ((noErr_ok (minus_eq p6 p7 r3 r4 hv)).trans (congrArg Res.ok e1)) ?_
  refine Ok.guard (okEq_of rfl rfl) (Ok.iteF (by rw [eqD_refl rfl]; rfl) ?_)
  refine Ok.ite (fun _ => Ok.pure rfl) fun c => ?_
  have h0 : r.a ≠ 0 := of_decide_eq_false c
  refine Ok.bindE (noErr_ok (times_eq lu lv r3 r4 hb)) ?_
  obtain ⟨t1, t2, t3, t4, t5⟩ := lowT_of (a := l.a * r.a) hb
  have t6 : (lowT (l.a * r.a) (l.b * r.b)).a.natAbs < 2 ^ 200 := Nat.lt_of_le_of_lt t4 (up (m2 l3 r3) (by decide))
  have t7 : (lowT (l.a * r.a) (l.b * r.b)).b.natAbs < 2 ^ 200 := Nat.lt_of_le_of_lt t5 (up (m2 l4 r4) (by decide))
  generalize lowT (l.a * r.a) (l.b * r.b) = t at *
  have hw : t.b * r.a ≠ 0 := Int.mul_ne_zero (by omega) h0
  have e2 : lowT (t.a * r.b) (t.b * r.a) = l := low_eq ⟨l1, l2⟩ hw (by grind)
  refine Ok.bindE ((noErr_ok (shared_eq t6 t7 r3 r4 h0 hw)).trans (congrArg Res.ok e2)) ?_
  exact Ok.guard (okEq_of rfl rfl) (Ok.pure (eqD_refl rfl))
theorem cell_ok {ns : List Int} {i : Int} (h0 : 0 ≤ i) : Ok (l_cell_at ns i) fun _ => True := by
  unfold l_cell_at
  exact Ok.ite (fun c => Ok.ix h0 (of_decide_eq_true c) fun x _ _ => Ok.pure trivial) fun _ => Ok.pure trivial
theorem law_ok (ns : List Int) (h : ns.length ≤ 63) : m_law ns = .ok true := by
  have q : Ok (m_law ns) fun r => r = true := by
    unfold m_law
    refine Ok.bind (cell_ok (by decide)) fun x1 _ => Ok.bind (drawn_ok (.inl rfl)) fun ⟨l, s1⟩ ⟨hl, _⟩ => ?_
    refine Ok.bind (cell_ok (by decide)) fun x2 _ => Ok.bind (second_ok (.inl rfl) hl) fun ⟨r, s2⟩ ⟨hr, _⟩ => ?_
    have hl0 := hl
    have hr0 := hr
    obtain ⟨⟨l1, l2⟩, l3, l4⟩ := hl
    obtain ⟨⟨r1, r2⟩, r3, r4⟩ := hr
    have hlb : l.b ≠ 0 := by simp only at l1; omega
    have e0 : m_fraction (enc (l.a : Int)) (enc (l.b : Int)) = .ok l := (fraction_eq hlb (up l4 (by decide))).trans (congrArg Res.ok (low_eq ⟨l1, l2⟩ hlb rfl))
    refine Ok.bindE (noErr_ok e0) (Ok.guard (okEq_of rfl rfl) (Ok.iteF (by show (!eqD (enc l) (enc l)) = false; rw [eqD_refl rfl]; rfl) ?_))
    have hb : l.b * r.b ≠ 0 := Int.mul_ne_zero hlb (by simp only at r1; omega)
    have em := noErr_ok (minus_eq (up (n := 200) l3 (by decide)) (up (n := 200) l4 (by decide)) r3 r4 hb)
    refine Ok.bindE em (Ok.bindE em (Ok.guard (okEq_of rfl rfl) (Ok.iteF (by rw [eqD_refl rfl]; rfl) ?_)))
    refine Ok.bind (cell_ok (by decide)) fun x3 _ => Ok.bind (second_ok (.inl rfl) hr0) fun ⟨t, s3⟩ ⟨ht, _⟩ => ?_
    refine Ok.bind (all_right_ok hl0 hr0) fun b1 e1 => Ok.iteT e1 ?_
    refine Ok.bind (all_right_ok hr0 hl0) fun b2 e2 => Ok.iteT e2 ?_
    exact Ok.bind (all_right_ok ht hl0) fun b3 e3 => Ok.pure e3
  obtain ⟨a, e, rfl⟩ := q
  exact e
end A

set_option Elab.async false
set_option linter.all false
set_option maxRecDepth 100000
set_option maxHeartbeats 4000000
namespace A
open PySem PySem.Spec PyProof.Rows L2 Y
open Y.Enc (enc)
theorem all_mk {l : PySem.W.OpenLaw} {w : World} {K : PySem.W.Frag} {h : Heap} {mg : Str → Option Value} {fa : Addr} (X : K.In h) (G : h.Ns mainGlobals mg) (hfa : mg "law" = some (.ref fa))
    {f_divisor : Addr} {od_divisor an_divisor : Option Addr} {sl_divisor : Array (Option Value)} {oc_divisor kV_divisor dc_divisor pm_divisor cd_divisor ct_divisor : Value}
    (a_divisor : PySem.W.nsIn K mainGlobals "divisor" = some (some (.ref f_divisor))) (l_divisor : K.lookup f_divisor = some ⟨oc_divisor, od_divisor, .func (PySem.W.fnOf "divisor" "divisor" (defArgs s_divisor) (defBody s_divisor) (defScope s_divisor) .none kV_divisor dc_divisor pm_divisor an_divisor cd_divisor ct_divisor), sl_divisor⟩) (c_divisor : PySem.W.codeIn K cd_divisor "divisor" = true) (k_divisor : PySem.W.keepIn K (.ref f_divisor) = true)
    {f_is_number : Addr} {od_is_number an_is_number : Option Addr} {sl_is_number : Array (Option Value)} {oc_is_number kV_is_number dc_is_number pm_is_number cd_is_number ct_is_number : Value}
    (a_is_number : PySem.W.nsIn K mainGlobals "is_number" = some (some (.ref f_is_number))) (l_is_number : K.lookup f_is_number = some ⟨oc_is_number, od_is_number, .func (PySem.W.fnOf "is_number" "is_number" (defArgs s_is_number) (defBody s_is_number) (defScope s_is_number) .none kV_is_number dc_is_number pm_is_number an_is_number cd_is_number ct_is_number), sl_is_number⟩) (c_is_number : PySem.W.codeIn K cd_is_number "is_number" = true) (k_is_number : PySem.W.keepIn K (.ref f_is_number) = true)
    {f_fraction : Addr} {od_fraction an_fraction : Option Addr} {sl_fraction : Array (Option Value)} {oc_fraction kV_fraction dc_fraction pm_fraction cd_fraction ct_fraction : Value} {T_fraction_ : Addr} {oT_fraction : Value} {dT_fraction : Option Addr} {nT_fraction : Nat} {sT_fraction : Array (Option Value)} {tk_fraction_bottom : Tok}
    (a_fraction : PySem.W.nsIn K mainGlobals "fraction" = some (some (.ref f_fraction))) (l_fraction : K.lookup f_fraction = some ⟨oc_fraction, od_fraction, .func (PySem.W.fnOf "fraction" "fraction" (defArgs s_fraction) (defBody s_fraction) (defScope s_fraction) (.ref T_fraction_) kV_fraction dc_fraction pm_fraction an_fraction cd_fraction ct_fraction), sl_fraction⟩) (c_fraction : PySem.W.codeIn K cd_fraction "fraction" = true) (k_fraction : PySem.W.keepIn K (.ref f_fraction) = true)
    (lT_fraction : K.lookup T_fraction_ = some ⟨oT_fraction, dT_fraction, .seq #[.int 1 tk_fraction_bottom] nT_fraction, sT_fraction⟩)
    {f_plus : Addr} {od_plus an_plus : Option Addr} {sl_plus : Array (Option Value)} {oc_plus kV_plus dc_plus pm_plus cd_plus ct_plus : Value}
    (a_plus : PySem.W.nsIn K mainGlobals "plus" = some (some (.ref f_plus))) (l_plus : K.lookup f_plus = some ⟨oc_plus, od_plus, .func (PySem.W.fnOf "plus" "plus" (defArgs s_plus) (defBody s_plus) (defScope s_plus) .none kV_plus dc_plus pm_plus an_plus cd_plus ct_plus), sl_plus⟩) (c_plus : PySem.W.codeIn K cd_plus "plus" = true) (k_plus : PySem.W.keepIn K (.ref f_plus) = true)
    {f_minus : Addr} {od_minus an_minus : Option Addr} {sl_minus : Array (Option Value)} {oc_minus kV_minus dc_minus pm_minus cd_minus ct_minus : Value}
    (a_minus : PySem.W.nsIn K mainGlobals "minus" = some (some (.ref f_minus))) (l_minus : K.lookup f_minus = some ⟨oc_minus, od_minus, .func (PySem.W.fnOf "minus" "minus" (defArgs s_minus) (defBody s_minus) (defScope s_minus) .none kV_minus dc_minus pm_minus an_minus cd_minus ct_minus), sl_minus⟩) (c_minus : PySem.W.codeIn K cd_minus "minus" = true) (k_minus : PySem.W.keepIn K (.ref f_minus) = true)
    {f_times : Addr} {od_times an_times : Option Addr} {sl_times : Array (Option Value)} {oc_times kV_times dc_times pm_times cd_times ct_times : Value}
    (a_times : PySem.W.nsIn K mainGlobals "times" = some (some (.ref f_times))) (l_times : K.lookup f_times = some ⟨oc_times, od_times, .func (PySem.W.fnOf "times" "times" (defArgs s_times) (defBody s_times) (defScope s_times) .none kV_times dc_times pm_times an_times cd_times ct_times), sl_times⟩) (c_times : PySem.W.codeIn K cd_times "times" = true) (k_times : PySem.W.keepIn K (.ref f_times) = true)
    {f_shared : Addr} {od_shared an_shared : Option Addr} {sl_shared : Array (Option Value)} {oc_shared kV_shared dc_shared pm_shared cd_shared ct_shared : Value}
    (a_shared : PySem.W.nsIn K mainGlobals "shared" = some (some (.ref f_shared))) (l_shared : K.lookup f_shared = some ⟨oc_shared, od_shared, .func (PySem.W.fnOf "shared" "shared" (defArgs s_shared) (defBody s_shared) (defScope s_shared) .none kV_shared dc_shared pm_shared an_shared cd_shared ct_shared), sl_shared⟩) (c_shared : PySem.W.codeIn K cd_shared "shared" = true) (k_shared : PySem.W.keepIn K (.ref f_shared) = true)
    {f__law_cell_at : Addr} {od__law_cell_at an__law_cell_at : Option Addr} {sl__law_cell_at : Array (Option Value)} {oc__law_cell_at kV__law_cell_at dc__law_cell_at pm__law_cell_at cd__law_cell_at ct__law_cell_at : Value}
    (a__law_cell_at : PySem.W.nsIn K mainGlobals "_law_cell_at" = some (some (.ref f__law_cell_at))) (l__law_cell_at : K.lookup f__law_cell_at = some ⟨oc__law_cell_at, od__law_cell_at, .func (PySem.W.fnOf "_law_cell_at" "_law_cell_at" (defArgs s__law_cell_at) (defBody s__law_cell_at) (defScope s__law_cell_at) .none kV__law_cell_at dc__law_cell_at pm__law_cell_at an__law_cell_at cd__law_cell_at ct__law_cell_at), sl__law_cell_at⟩) (c__law_cell_at : PySem.W.codeIn K cd__law_cell_at "_law_cell_at" = true) (k__law_cell_at : PySem.W.keepIn K (.ref f__law_cell_at) = true)
    {f__law_digit : Addr} {od__law_digit an__law_digit : Option Addr} {sl__law_digit : Array (Option Value)} {oc__law_digit kV__law_digit dc__law_digit pm__law_digit cd__law_digit ct__law_digit : Value}
    (a__law_digit : PySem.W.nsIn K mainGlobals "_law_digit" = some (some (.ref f__law_digit))) (l__law_digit : K.lookup f__law_digit = some ⟨oc__law_digit, od__law_digit, .func (PySem.W.fnOf "_law_digit" "_law_digit" (defArgs s__law_digit) (defBody s__law_digit) (defScope s__law_digit) .none kV__law_digit dc__law_digit pm__law_digit an__law_digit cd__law_digit ct__law_digit), sl__law_digit⟩) (c__law_digit : PySem.W.codeIn K cd__law_digit "_law_digit" = true) (k__law_digit : PySem.W.keepIn K (.ref f__law_digit) = true)
    {f__law_great : Addr} {od__law_great an__law_great : Option Addr} {sl__law_great : Array (Option Value)} {oc__law_great kV__law_great dc__law_great pm__law_great cd__law_great ct__law_great : Value}
    (a__law_great : PySem.W.nsIn K mainGlobals "_law_great" = some (some (.ref f__law_great))) (l__law_great : K.lookup f__law_great = some ⟨oc__law_great, od__law_great, .func (PySem.W.fnOf "_law_great" "_law_great" (defArgs s__law_great) (defBody s__law_great) (defScope s__law_great) .none kV__law_great dc__law_great pm__law_great an__law_great cd__law_great ct__law_great), sl__law_great⟩) (c__law_great : PySem.W.codeIn K cd__law_great "_law_great" = true) (k__law_great : PySem.W.keepIn K (.ref f__law_great) = true)
    {f__law_shared : Addr} {od__law_shared an__law_shared : Option Addr} {sl__law_shared : Array (Option Value)} {oc__law_shared kV__law_shared dc__law_shared pm__law_shared cd__law_shared ct__law_shared : Value}
    (a__law_shared : PySem.W.nsIn K mainGlobals "_law_shared" = some (some (.ref f__law_shared))) (l__law_shared : K.lookup f__law_shared = some ⟨oc__law_shared, od__law_shared, .func (PySem.W.fnOf "_law_shared" "_law_shared" (defArgs s__law_shared) (defBody s__law_shared) (defScope s__law_shared) .none kV__law_shared dc__law_shared pm__law_shared an__law_shared cd__law_shared ct__law_shared), sl__law_shared⟩) (c__law_shared : PySem.W.codeIn K cd__law_shared "_law_shared" = true) (k__law_shared : PySem.W.keepIn K (.ref f__law_shared) = true)
    {f__law_lowest : Addr} {od__law_lowest an__law_lowest : Option Addr} {sl__law_lowest : Array (Option Value)} {oc__law_lowest kV__law_lowest dc__law_lowest pm__law_lowest cd__law_lowest ct__law_lowest : Value}
    (a__law_lowest : PySem.W.nsIn K mainGlobals "_law_lowest" = some (some (.ref f__law_lowest))) (l__law_lowest : K.lookup f__law_lowest = some ⟨oc__law_lowest, od__law_lowest, .func (PySem.W.fnOf "_law_lowest" "_law_lowest" (defArgs s__law_lowest) (defBody s__law_lowest) (defScope s__law_lowest) .none kV__law_lowest dc__law_lowest pm__law_lowest an__law_lowest cd__law_lowest ct__law_lowest), sl__law_lowest⟩) (c__law_lowest : PySem.W.codeIn K cd__law_lowest "_law_lowest" = true) (k__law_lowest : PySem.W.keepIn K (.ref f__law_lowest) = true)
    {f__law_drawn : Addr} {od__law_drawn an__law_drawn : Option Addr} {sl__law_drawn : Array (Option Value)} {oc__law_drawn kV__law_drawn dc__law_drawn pm__law_drawn cd__law_drawn ct__law_drawn : Value}
    (a__law_drawn : PySem.W.nsIn K mainGlobals "_law_drawn" = some (some (.ref f__law_drawn))) (l__law_drawn : K.lookup f__law_drawn = some ⟨oc__law_drawn, od__law_drawn, .func (PySem.W.fnOf "_law_drawn" "_law_drawn" (defArgs s__law_drawn) (defBody s__law_drawn) (defScope s__law_drawn) .none kV__law_drawn dc__law_drawn pm__law_drawn an__law_drawn cd__law_drawn ct__law_drawn), sl__law_drawn⟩) (c__law_drawn : PySem.W.codeIn K cd__law_drawn "_law_drawn" = true) (k__law_drawn : PySem.W.keepIn K (.ref f__law_drawn) = true)
    {f__law_second : Addr} {od__law_second an__law_second : Option Addr} {sl__law_second : Array (Option Value)} {oc__law_second kV__law_second dc__law_second pm__law_second cd__law_second ct__law_second : Value}
    (a__law_second : PySem.W.nsIn K mainGlobals "_law_second" = some (some (.ref f__law_second))) (l__law_second : K.lookup f__law_second = some ⟨oc__law_second, od__law_second, .func (PySem.W.fnOf "_law_second" "_law_second" (defArgs s__law_second) (defBody s__law_second) (defScope s__law_second) .none kV__law_second dc__law_second pm__law_second an__law_second cd__law_second ct__law_second), sl__law_second⟩) (c__law_second : PySem.W.codeIn K cd__law_second "_law_second" = true) (k__law_second : PySem.W.keepIn K (.ref f__law_second) = true)
    {f__law_alike : Addr} {od__law_alike an__law_alike : Option Addr} {sl__law_alike : Array (Option Value)} {oc__law_alike kV__law_alike dc__law_alike pm__law_alike cd__law_alike ct__law_alike : Value}
    (a__law_alike : PySem.W.nsIn K mainGlobals "_law_alike" = some (some (.ref f__law_alike))) (l__law_alike : K.lookup f__law_alike = some ⟨oc__law_alike, od__law_alike, .func (PySem.W.fnOf "_law_alike" "_law_alike" (defArgs s__law_alike) (defBody s__law_alike) (defScope s__law_alike) .none kV__law_alike dc__law_alike pm__law_alike an__law_alike cd__law_alike ct__law_alike), sl__law_alike⟩) (c__law_alike : PySem.W.codeIn K cd__law_alike "_law_alike" = true) (k__law_alike : PySem.W.keepIn K (.ref f__law_alike) = true)
    {f__law_share_right : Addr} {od__law_share_right an__law_share_right : Option Addr} {sl__law_share_right : Array (Option Value)} {oc__law_share_right kV__law_share_right dc__law_share_right pm__law_share_right cd__law_share_right ct__law_share_right : Value}
    (a__law_share_right : PySem.W.nsIn K mainGlobals "_law_share_right" = some (some (.ref f__law_share_right))) (l__law_share_right : K.lookup f__law_share_right = some ⟨oc__law_share_right, od__law_share_right, .func (PySem.W.fnOf "_law_share_right" "_law_share_right" (defArgs s__law_share_right) (defBody s__law_share_right) (defScope s__law_share_right) .none kV__law_share_right dc__law_share_right pm__law_share_right an__law_share_right cd__law_share_right ct__law_share_right), sl__law_share_right⟩) (c__law_share_right : PySem.W.codeIn K cd__law_share_right "_law_share_right" = true) (k__law_share_right : PySem.W.keepIn K (.ref f__law_share_right) = true)
    {f__law_all_right : Addr} {od__law_all_right an__law_all_right : Option Addr} {sl__law_all_right : Array (Option Value)} {oc__law_all_right kV__law_all_right dc__law_all_right pm__law_all_right cd__law_all_right ct__law_all_right : Value}
    (a__law_all_right : PySem.W.nsIn K mainGlobals "_law_all_right" = some (some (.ref f__law_all_right))) (l__law_all_right : K.lookup f__law_all_right = some ⟨oc__law_all_right, od__law_all_right, .func (PySem.W.fnOf "_law_all_right" "_law_all_right" (defArgs s__law_all_right) (defBody s__law_all_right) (defScope s__law_all_right) .none kV__law_all_right dc__law_all_right pm__law_all_right an__law_all_right cd__law_all_right ct__law_all_right), sl__law_all_right⟩) (c__law_all_right : PySem.W.codeIn K cd__law_all_right "_law_all_right" = true) (k__law_all_right : PySem.W.keepIn K (.ref f__law_all_right) = true)
    {f_law : Addr} {od_law an_law : Option Addr} {sl_law : Array (Option Value)} {oc_law kV_law dc_law pm_law cd_law ct_law : Value}
    (a_law : PySem.W.nsIn K mainGlobals "law" = some (some (.ref f_law))) (l_law : K.lookup f_law = some ⟨oc_law, od_law, .func (PySem.W.fnOf "law" "law" (defArgs s_law) (defBody s_law) (defScope s_law) .none kV_law dc_law pm_law an_law cd_law ct_law), sl_law⟩) (c_law : PySem.W.codeIn K cd_law "law" = true) (k_law : PySem.W.keepIn K (.ref f_law) = true)
    {C_NoFraction : Addr}
    (xca_NoFraction : PySem.W.nsIn K mainGlobals "NoFraction" = some (some (.ref C_NoFraction)))
    (xchg_NoFraction : PySem.W.findIn K (.ref C_NoFraction) "__getattribute__" = some (some (.builtin "BaseException.__getattribute__")))
    (xchk_NoFraction : PySem.W.findIn K (.ref C_NoFraction) "__getattr__" = some none)
    (xchs_NoFraction : PySem.W.subIn K (.ref C_NoFraction) (.type "BaseException") = some true)
    (xchd_NoFraction : PySem.W.hasDictIn K C_NoFraction = true)
    (xcha_NoFraction : PySem.W.findIn K (.ref C_NoFraction) "__class__" = some (some (.builtin "object.__class__")))
    (xchm_NoFraction : PySem.W.mroIn K C_NoFraction (.type "object") = some true)
    (xcty_NoFraction : PySem.W.typeIn K (.ref C_NoFraction) = some (.type "type"))
    (xckp_NoFraction : PySem.W.keepIn K (.ref C_NoFraction) = true)
    (xcve_NoFraction : PySem.W.subIn K (.ref C_NoFraction) (.type "ValueError") = some true)
    (xcis_NoFraction : PySem.W.isClsIn K C_NoFraction = true)
    (xcself_NoFraction : PySem.W.subIn K (.ref C_NoFraction) (.ref C_NoFraction) = some true)
    (xcex_NoFraction : PySem.W.excIn K C_NoFraction [.type "ValueError", .type "Exception", .type "BaseException", .type "object"] "ValueError.__new__" = true)
    {C_ScrollError : Addr}
    (xca_ScrollError : PySem.W.nsIn K mainGlobals "ScrollError" = some (some (.ref C_ScrollError)))
    (xchg_ScrollError : PySem.W.findIn K (.ref C_ScrollError) "__getattribute__" = some (some (.builtin "BaseException.__getattribute__")))
    (xchk_ScrollError : PySem.W.findIn K (.ref C_ScrollError) "__getattr__" = some none)
    (xchs_ScrollError : PySem.W.subIn K (.ref C_ScrollError) (.type "BaseException") = some true)
    (xchd_ScrollError : PySem.W.hasDictIn K C_ScrollError = true)
    (xcha_ScrollError : PySem.W.findIn K (.ref C_ScrollError) "__class__" = some (some (.builtin "object.__class__")))
    (xchm_ScrollError : PySem.W.mroIn K C_ScrollError (.type "object") = some true)
    (xcty_ScrollError : PySem.W.typeIn K (.ref C_ScrollError) = some (.type "type"))
    (xckp_ScrollError : PySem.W.keepIn K (.ref C_ScrollError) = true)
    (xcve_ScrollError : PySem.W.subIn K (.ref C_ScrollError) (.type "ValueError") = some true)
    (xcis_ScrollError : PySem.W.isClsIn K C_ScrollError = true)
    (xcself_ScrollError : PySem.W.subIn K (.ref C_ScrollError) (.ref C_ScrollError) = some true)
    (xcex_ScrollError : PySem.W.excIn K C_ScrollError [.type "ValueError", .type "Exception", .type "BaseException", .type "object"] "ValueError.__new__" = true)
    (p_NoFraction_NoFraction : PySem.W.subIn K (.ref C_NoFraction) (.ref C_NoFraction) = some true)
    (p_NoFraction_ScrollError : PySem.W.subIn K (.ref C_NoFraction) (.ref C_ScrollError) = some true)
    (xhn : PySem.W.specialIn K (.builtin "object.__class__") "__get__" = some (some (.builtin "getset_descriptor.__get__"))) (xht : PySem.W.takesIn K (.builtin "object.__class__") = some true)
    (z_abs : PySem.W.nsIn K mainGlobals "abs" = some none)
    (z_isinstance : PySem.W.nsIn K mainGlobals "isinstance" = some none)
    (z_int : PySem.W.nsIn K mainGlobals "int" = some none)
    (z_bool : PySem.W.nsIn K mainGlobals "bool" = some none)
    (z_len : PySem.W.nsIn K mainGlobals "len" = some none)
    (z_range : PySem.W.nsIn K mainGlobals "range" = some none)
    (z_tuple : PySem.W.nsIn K mainGlobals "tuple" = some none)
    : ∃ fd : FuncData, (∀ (s : Shared) (v : Value), BindsTo s fd ⟨[v], []⟩ [("_law_script", v)]) ∧ ∀ base : Heap, K.In base → base.Ns mainGlobals mg → FnOk l.prog w K mg base CX0 6 fa fd ["_law_script"] (spTop K) := by
  have e := hfa.symm.trans (PySem.W.mg_of X G a_law)
  cases e
  have F_divisor := fun_mk (st := s_divisor) l_divisor c_divisor k_divisor
  have b_divisor := F_divisor.binds (ps := ["one", "other"]) fun _ _ _ _ _ _ us hl => match us, hl with | [_, _], _ => rfl
  have g_divisor := PySem.W.mg_of X G a_divisor
  have F_is_number := fun_mk (st := s_is_number) l_is_number c_is_number k_is_number
  have b_is_number := F_is_number.binds (ps := ["thing"]) fun _ _ _ _ _ _ us hl => match us, hl with | [_], _ => rfl
  have g_is_number := PySem.W.mg_of X G a_is_number
  have F_fraction := funV_mk (st := s_fraction) (dv := [.int 1 tk_fraction_bottom]) l_fraction c_fraction k_fraction lT_fraction
  have b_fraction := (F_fraction.binds (ps := ["top", "bottom"]) 2 1 rfl (fun _ _ _ _ _ _ _ us hl => match us, hl with | [_, _], _ => ⟨_, rfl, rfl⟩) : L2.Binds K _ ["top", "bottom"] [])
  have g_fraction := PySem.W.mg_of X G a_fraction
  have F_plus := fun_mk (st := s_plus) l_plus c_plus k_plus
  have b_plus := F_plus.binds (ps := ["one", "other"]) fun _ _ _ _ _ _ us hl => match us, hl with | [_, _], _ => rfl
  have g_plus := PySem.W.mg_of X G a_plus
  have F_minus := fun_mk (st := s_minus) l_minus c_minus k_minus
  have b_minus := F_minus.binds (ps := ["one", "other"]) fun _ _ _ _ _ _ us hl => match us, hl with | [_, _], _ => rfl
  have g_minus := PySem.W.mg_of X G a_minus
  have F_times := fun_mk (st := s_times) l_times c_times k_times
  have b_times := F_times.binds (ps := ["one", "other"]) fun _ _ _ _ _ _ us hl => match us, hl with | [_, _], _ => rfl
  have g_times := PySem.W.mg_of X G a_times
  have F_shared := fun_mk (st := s_shared) l_shared c_shared k_shared
  have b_shared := F_shared.binds (ps := ["one", "other"]) fun _ _ _ _ _ _ us hl => match us, hl with | [_, _], _ => rfl
  have g_shared := PySem.W.mg_of X G a_shared
  have F__law_cell_at := fun_mk (st := s__law_cell_at) l__law_cell_at c__law_cell_at k__law_cell_at
  have b__law_cell_at := F__law_cell_at.binds (ps := ["_law_script", "_law_k"]) fun _ _ _ _ _ _ us hl => match us, hl with | [_, _], _ => rfl
  have g__law_cell_at := PySem.W.mg_of X G a__law_cell_at
  have F__law_digit := fun_mk (st := s__law_digit) l__law_digit c__law_digit k__law_digit
  have b__law_digit := F__law_digit.binds (ps := ["_law_state", "_law_base"]) fun _ _ _ _ _ _ us hl => match us, hl with | [_, _], _ => rfl
  have g__law_digit := PySem.W.mg_of X G a__law_digit
  have F__law_great := fun_mk (st := s__law_great) l__law_great c__law_great k__law_great
  have b__law_great := F__law_great.binds (ps := ["_law_state", "_law_few"]) fun _ _ _ _ _ _ us hl => match us, hl with | [_, _], _ => rfl
  have g__law_great := PySem.W.mg_of X G a__law_great
  have F__law_shared := fun_mk (st := s__law_shared) l__law_shared c__law_shared k__law_shared
  have b__law_shared := F__law_shared.binds (ps := ["_law_left", "_law_right"]) fun _ _ _ _ _ _ us hl => match us, hl with | [_, _], _ => rfl
  have g__law_shared := PySem.W.mg_of X G a__law_shared
  have F__law_lowest := fun_mk (st := s__law_lowest) l__law_lowest c__law_lowest k__law_lowest
  have b__law_lowest := F__law_lowest.binds (ps := ["_law_top", "_law_bottom"]) fun _ _ _ _ _ _ us hl => match us, hl with | [_, _], _ => rfl
  have g__law_lowest := PySem.W.mg_of X G a__law_lowest
  have F__law_drawn := fun_mk (st := s__law_drawn) l__law_drawn c__law_drawn k__law_drawn
  have b__law_drawn := F__law_drawn.binds (ps := ["_law_state"]) fun _ _ _ _ _ _ us hl => match us, hl with | [_], _ => rfl
  have g__law_drawn := PySem.W.mg_of X G a__law_drawn
  have F__law_second := fun_mk (st := s__law_second) l__law_second c__law_second k__law_second
  have b__law_second := F__law_second.binds (ps := ["_law_state", "_law_left"]) fun _ _ _ _ _ _ us hl => match us, hl with | [_, _], _ => rfl
  have g__law_second := PySem.W.mg_of X G a__law_second
  have F__law_alike := fun_mk (st := s__law_alike) l__law_alike c__law_alike k__law_alike
  have b__law_alike := F__law_alike.binds (ps := ["_law_found", "_law_top", "_law_bottom"]) fun _ _ _ _ _ _ us hl => match us, hl with | [_, _, _], _ => rfl
  have g__law_alike := PySem.W.mg_of X G a__law_alike
  have F__law_share_right := fun_mk (st := s__law_share_right) l__law_share_right c__law_share_right k__law_share_right
  have b__law_share_right := F__law_share_right.binds (ps := ["_law_left", "_law_right"]) fun _ _ _ _ _ _ us hl => match us, hl with | [_, _], _ => rfl
  have g__law_share_right := PySem.W.mg_of X G a__law_share_right
  have F__law_all_right := fun_mk (st := s__law_all_right) l__law_all_right c__law_all_right k__law_all_right
  have b__law_all_right := F__law_all_right.binds (ps := ["_law_left", "_law_right"]) fun _ _ _ _ _ _ us hl => match us, hl with | [_, _], _ => rfl
  have g__law_all_right := PySem.W.mg_of X G a__law_all_right
  have F_law := fun_mk (st := s_law) l_law c_law k_law
  have b_law := F_law.binds (ps := ["_law_script"]) fun _ _ _ _ _ _ us hl => match us, hl with | [_], _ => rfl
  have g_law := PySem.W.mg_of X G a_law
  have T_NoFraction : ExcR K mg "NoFraction" C_NoFraction := ⟨⟨PySem.W.mg_of X G xca_NoFraction, ⟨xchg_NoFraction, xchk_NoFraction, xchs_NoFraction, xchd_NoFraction, xcha_NoFraction, xhn, xht, xchm_NoFraction⟩, xcty_NoFraction, xckp_NoFraction, xcve_NoFraction, xcis_NoFraction, xcself_NoFraction⟩, xcex_NoFraction⟩
  have T_ScrollError : ExcR K mg "ScrollError" C_ScrollError := ⟨⟨PySem.W.mg_of X G xca_ScrollError, ⟨xchg_ScrollError, xchk_ScrollError, xchs_ScrollError, xchd_ScrollError, xcha_ScrollError, xhn, xht, xchm_ScrollError⟩, xcty_ScrollError, xckp_ScrollError, xcve_ScrollError, xcis_ScrollError, xcself_ScrollError⟩, xcex_ScrollError⟩
  have bI_abs := PySem.W.mg_none_of X G z_abs
  have bI_isinstance := PySem.W.mg_none_of X G z_isinstance
  have bI_int := PySem.W.mg_none_of X G z_int
  have bI_bool := PySem.W.mg_none_of X G z_bool
  have bI_len := PySem.W.mg_none_of X G z_len
  have bI_range := PySem.W.mg_none_of X G z_range
  have bI_tuple := PySem.W.mg_none_of X G z_tuple
  have kb_shared_0_one_other : KBinds K (PySem.W.fnOf "shared" "shared" (defArgs s_shared) (defBody s_shared) (defScope s_shared) .none kV_shared dc_shared pm_shared an_shared cd_shared ct_shared) ["one", "other"] ["one", "other"] (fun us ws => match us, ws with | [], [w0, w1] => [w0, w1] | _, _ => []) (fun us ws => match us, ws with | [], [w0, w1] => [w0, w1] | _, _ => []) := by
    refine F_shared.kb (fun _ _ _ _ _ _ us ws hl => ?_) (fun {vs us zs ws} r1 r2 => ?_)
    · skip
      cases us with
      | nil =>
        cases ws with
        | nil => exact absurd (show (0 : Nat) = 2 from hl) (by decide)
        | cons q10 ws =>
          cases ws with
          | nil => exact absurd (show (0 : Nat) = 2 from hl) (by decide)
          | cons q11 ws =>
            cases ws with
            | nil =>
              rfl
            | cons _ _ => exact absurd (show (0 : Nat) = 2 from hl) (by decide)
      | cons _ _ => exact absurd (show (0 : Nat) = 2 from hl) (by decide)
    · skip
      cases r1 with
      | nil =>
        cases r2 with
        | nil => exact .nil
        | cons q10 r2 =>
          cases r2 with
          | nil => exact .nil
          | cons q11 r2 =>
            cases r2 with
            | nil =>
              exact (.cons q10 (.cons q11 .nil))
            | cons _ _ => exact .nil
      | cons _ _ => exact .nil
  have kb_minus_0_other_one : KBinds K (PySem.W.fnOf "minus" "minus" (defArgs s_minus) (defBody s_minus) (defScope s_minus) .none kV_minus dc_minus pm_minus an_minus cd_minus ct_minus) ["one", "other"] ["other", "one"] (fun us ws => match us, ws with | [], [w0, w1] => [w1, w0] | _, _ => []) (fun us ws => match us, ws with | [], [w0, w1] => [w1, w0] | _, _ => []) := by
    refine F_minus.kb (fun _ _ _ _ _ _ us ws hl => ?_) (fun {vs us zs ws} r1 r2 => ?_)
    · skip
      cases us with
      | nil =>
        cases ws with
        | nil => exact absurd (show (0 : Nat) = 2 from hl) (by decide)
        | cons q10 ws =>
          cases ws with
          | nil => exact absurd (show (0 : Nat) = 2 from hl) (by decide)
          | cons q11 ws =>
            cases ws with
            | nil =>
              rfl
            | cons _ _ => exact absurd (show (0 : Nat) = 2 from hl) (by decide)
      | cons _ _ => exact absurd (show (0 : Nat) = 2 from hl) (by decide)
    · skip
      cases r1 with
      | nil =>
        cases r2 with
        | nil => exact .nil
        | cons q10 r2 =>
          cases r2 with
          | nil => exact .nil
          | cons q11 r2 =>
            cases r2 with
            | nil =>
              exact (.cons q11 (.cons q10 .nil))
            | cons _ _ => exact .nil
      | cons _ _ => exact .nil
  refine ⟨_, fun s v => (.of_eq rfl : BindsTo s (PySem.W.fnOf "law" "law" (defArgs s_law) (defBody s_law) (defScope s_law) .none kV_law dc_law pm_law an_law cd_law ct_law) ⟨[v], []⟩ [("_law_script", v)]), fun base _ _ => ?_⟩
  have G_divisor := ok_divisor (Pr := l.prog) (wo := w) (base := base) (mg := mg) F_divisor bI_abs
  have G_is_number := ok_is_number (Pr := l.prog) (wo := w) (base := base) (mg := mg) F_is_number bI_isinstance bI_int bI_bool
  have G__law_cell_at := ok__law_cell_at (Pr := l.prog) (wo := w) (base := base) (mg := mg) F__law_cell_at bI_len
  have G__law_digit := ok__law_digit (Pr := l.prog) (wo := w) (base := base) (mg := mg) F__law_digit bI_len
  have G__law_shared := ok__law_shared (Pr := l.prog) (wo := w) (base := base) (mg := mg) F__law_shared bI_abs
  have G_fraction := ok_fraction (Pr := l.prog) (wo := w) (base := base) (mg := mg) F_fraction T_NoFraction g_divisor k_divisor b_divisor G_divisor g_is_number k_is_number b_is_number G_is_number
  have G__law_great := ok__law_great (Pr := l.prog) (wo := w) (base := base) (mg := mg) F__law_great g__law_digit k__law_digit b__law_digit G__law_digit bI_range
  have G__law_lowest := ok__law_lowest (Pr := l.prog) (wo := w) (base := base) (mg := mg) F__law_lowest g__law_shared k__law_shared b__law_shared G__law_shared
  have G_plus := ok_plus (Pr := l.prog) (wo := w) (base := base) (mg := mg) F_plus g_fraction k_fraction b_fraction G_fraction
  have G_minus := ok_minus (Pr := l.prog) (wo := w) (base := base) (mg := mg) F_minus g_fraction k_fraction b_fraction G_fraction
  have G_times := ok_times (Pr := l.prog) (wo := w) (base := base) (mg := mg) F_times g_fraction k_fraction b_fraction G_fraction
  have G_shared := ok_shared (Pr := l.prog) (wo := w) (base := base) (mg := mg) F_shared T_NoFraction g_fraction k_fraction b_fraction G_fraction
  have G__law_drawn := ok__law_drawn (Pr := l.prog) (wo := w) (base := base) (mg := mg) F__law_drawn g__law_lowest k__law_lowest b__law_lowest G__law_lowest g__law_great k__law_great b__law_great G__law_great g__law_digit k__law_digit b__law_digit G__law_digit
  have G__law_alike := ok__law_alike (Pr := l.prog) (wo := w) (base := base) (mg := mg) F__law_alike g__law_lowest k__law_lowest b__law_lowest G__law_lowest bI_isinstance bI_tuple bI_len bI_bool bI_int
  have G__law_second := ok__law_second (Pr := l.prog) (wo := w) (base := base) (mg := mg) F__law_second g__law_drawn k__law_drawn b__law_drawn G__law_drawn g__law_digit k__law_digit b__law_digit G__law_digit g__law_lowest k__law_lowest b__law_lowest G__law_lowest
  have G__law_share_right := ok__law_share_right (Pr := l.prog) (wo := w) (base := base) (mg := mg) F__law_share_right T_ScrollError T_NoFraction p_NoFraction_NoFraction p_NoFraction_ScrollError g_shared k_shared b_shared G_shared g__law_alike k__law_alike b__law_alike G__law_alike bI_isinstance
  have G__law_all_right := ok__law_all_right (Pr := l.prog) (wo := w) (base := base) (mg := mg) F__law_all_right g__law_alike k__law_alike b__law_alike G__law_alike g_minus k_minus b_minus G_minus g_plus k_plus b_plus G_plus g__law_share_right k__law_share_right b__law_share_right G__law_share_right g_shared k_shared b_shared G_shared g_times k_times b_times G_times kb_shared_0_one_other
  have G_law := ok_law (Pr := l.prog) (wo := w) (base := base) (mg := mg) F_law g__law_drawn k__law_drawn b__law_drawn G__law_drawn g__law_second k__law_second b__law_second G__law_second g__law_all_right k__law_all_right b__law_all_right G__law_all_right g__law_cell_at k__law_cell_at b__law_cell_at G__law_cell_at g_fraction k_fraction b_fraction G_fraction g_minus k_minus b_minus G_minus kb_minus_0_other_one
  exact G_law.imp fun vs H Q E h => top_of law_ok h
end A
open PySem PySem.W PyProof.Rows
set_option maxRecDepth 100000 in
set_option maxHeartbeats 0 in
theorem PySem.Challenge.cw_lanescroll_k02_sums_and_products_holds : PySem.Challenge.rw_lanescroll_k02_sums_and_products.Holds := by
  w_on; o_law; k_head; (case hw => w_witness2)
  k_fill
  refine Y.walk_top (l := PySem.Challenge.rw_lanescroll_k02_sums_and_products) (k := 6) (x := "_law_script") rfl rfl ⟨rfl, by decide, by decide⟩ (fun w h Y => PySem.W.kIn_of Y) ?F
  case F =>
    intro w mg fa h KX G hmg
    refine' A.all_mk KX G hmg ?a_divisor ?l_divisor ?c_divisor ?k_divisor ?a_is_number ?l_is_number ?c_is_number ?k_is_number ?a_fraction ?l_fraction ?c_fraction ?k_fraction ?lT_fraction ?a_plus ?l_plus ?c_plus ?k_plus ?a_minus ?l_minus ?c_minus ?k_minus ?a_times ?l_times ?c_times ?k_times ?a_shared ?l_shared ?c_shared ?k_shared ?a__law_cell_at ?l__law_cell_at ?c__law_cell_at ?k__law_cell_at ?a__law_digit ?l__law_digit ?c__law_digit ?k__law_digit ?a__law_great ?l__law_great ?c__law_great ?k__law_great ?a__law_shared ?l__law_shared ?c__law_shared ?k__law_shared ?a__law_lowest ?l__law_lowest ?c__law_lowest ?k__law_lowest ?a__law_drawn ?l__law_drawn ?c__law_drawn ?k__law_drawn ?a__law_second ?l__law_second ?c__law_second ?k__law_second ?a__law_alike ?l__law_alike ?c__law_alike ?k__law_alike ?a__law_share_right ?l__law_share_right ?c__law_share_right ?k__law_share_right ?a__law_all_right ?l__law_all_right ?c__law_all_right ?k__law_all_right ?a_law ?l_law ?c_law ?k_law ?xca_NoFraction ?xchg_NoFraction ?xchk_NoFraction ?xchs_NoFraction ?xchd_NoFraction ?xcha_NoFraction ?xchm_NoFraction ?xcty_NoFraction ?xckp_NoFraction ?xcve_NoFraction ?xcis_NoFraction ?xcself_NoFraction ?xcex_NoFraction ?xca_ScrollError ?xchg_ScrollError ?xchk_ScrollError ?xchs_ScrollError ?xchd_ScrollError ?xcha_ScrollError ?xchm_ScrollError ?xcty_ScrollError ?xckp_ScrollError ?xcve_ScrollError ?xcis_ScrollError ?xcself_ScrollError ?xcex_ScrollError ?p_NoFraction_NoFraction ?p_NoFraction_ScrollError ?xhn ?xht ?z_abs ?z_isinstance ?z_int ?z_bool ?z_len ?z_range ?z_tuple
    (case a_divisor => k_is)
    (case l_divisor => k_is)
    (case c_divisor => k_is)
    (case k_divisor => k_is)
    (case a_is_number => k_is)
    (case l_is_number => k_is)
    (case c_is_number => k_is)
    (case k_is_number => k_is)
    (case a_fraction => k_is)
    (case l_fraction => k_is)
    (case c_fraction => k_is)
    (case k_fraction => k_is)
    (case lT_fraction => k_is)
    (case a_plus => k_is)
    (case l_plus => k_is)
    (case c_plus => k_is)
    (case k_plus => k_is)
    (case a_minus => k_is)
    (case l_minus => k_is)
    (case c_minus => k_is)
    (case k_minus => k_is)
    (case a_times => k_is)
    (case l_times => k_is)
    (case c_times => k_is)
    (case k_times => k_is)
    (case a_shared => k_is)
    (case l_shared => k_is)
    (case c_shared => k_is)
    (case k_shared => k_is)
    (case a__law_cell_at => k_is)
    (case l__law_cell_at => k_is)
    (case c__law_cell_at => k_is)
    (case k__law_cell_at => k_is)
    (case a__law_digit => k_is)
    (case l__law_digit => k_is)
    (case c__law_digit => k_is)
    (case k__law_digit => k_is)
    (case a__law_great => k_is)
    (case l__law_great => k_is)
    (case c__law_great => k_is)
    (case k__law_great => k_is)
    (case a__law_shared => k_is)
    (case l__law_shared => k_is)
    (case c__law_shared => k_is)
    (case k__law_shared => k_is)
    (case a__law_lowest => k_is)
    (case l__law_lowest => k_is)
    (case c__law_lowest => k_is)
    (case k__law_lowest => k_is)
    (case a__law_drawn => k_is)
    (case l__law_drawn => k_is)
    (case c__law_drawn => k_is)
    (case k__law_drawn => k_is)
    (case a__law_second => k_is)
    (case l__law_second => k_is)
    (case c__law_second => k_is)
    (case k__law_second => k_is)
    (case a__law_alike => k_is)
    (case l__law_alike => k_is)
    (case c__law_alike => k_is)
    (case k__law_alike => k_is)
    (case a__law_share_right => k_is)
    (case l__law_share_right => k_is)
    (case c__law_share_right => k_is)
    (case k__law_share_right => k_is)
    (case a__law_all_right => k_is)
    (case l__law_all_right => k_is)
    (case c__law_all_right => k_is)
    (case k__law_all_right => k_is)
    (case a_law => k_is)
    (case l_law => k_is)
    (case c_law => k_is)
    (case k_law => k_is)
    (case xca_NoFraction => k_is)
    (case xchg_NoFraction => k_is)
    (case xchk_NoFraction => k_is)
    (case xchs_NoFraction => k_is)
    (case xchd_NoFraction => k_is)
    (case xcha_NoFraction => k_is)
    (case xchm_NoFraction => k_is)
    (case xcty_NoFraction => k_is)
    (case xckp_NoFraction => k_is)
    (case xcve_NoFraction => k_is)
    (case xcis_NoFraction => k_is)
    (case xcself_NoFraction => k_is)
    (case xcex_NoFraction => k_exc)
    (case xca_ScrollError => k_is)
    (case xchg_ScrollError => k_is)
    (case xchk_ScrollError => k_is)
    (case xchs_ScrollError => k_is)
    (case xchd_ScrollError => k_is)
    (case xcha_ScrollError => k_is)
    (case xchm_ScrollError => k_is)
    (case xcty_ScrollError => k_is)
    (case xckp_ScrollError => k_is)
    (case xcve_ScrollError => k_is)
    (case xcis_ScrollError => k_is)
    (case xcself_ScrollError => k_is)
    (case xcex_ScrollError => k_exc)
    (case p_NoFraction_NoFraction => k_is)
    (case p_NoFraction_ScrollError => k_is)
    (case xhn => k_is)
    (case xht => k_is)
    (case z_abs => k_is)
    (case z_isinstance => k_is)
    (case z_int => k_is)
    (case z_bool => k_is)
    (case z_len => k_is)
    (case z_range => k_is)
    (case z_tuple => k_is)
