import PyProof.Rows.All
import Wide.All
import OpenK.AllK
import Wide.FinOn
import HandS.ForMost
import HandS.Evl
import HandS.IsInst
import HandS.Flow
import HandS.Defaults
import HandS.Wide
import HandS.WideMore
import HandS.Style
import HandS.ForExc
import HandS.TryOnly
import HandS.CallSlots
import HandS.ExcIs
import HandS.Walk
import HandS.Iter
import HandS.More
import HandS.TryMany
import HandS.ClsMeth
import HandS.TupAny
import HandS.SortKw
import HandS.WideBits
import HandS.Deep
import HandS.FStr
import KE.KCallOwn
import PyProof.Rows.FactsN_divmod
import KE.GoesRaise
import HandS.TupMul
import HandS.Strs
import HandS.Dict
import HandS.Text
import HandS.IntHex
import HandS.Lambda
import HandS.EndTab
import KE.KStateDown
import HandS.Ends
import HandS.HeadEnd
import HandS.Head0
import HandS.Head1
import HandS.Head2
import HandS.HeadHook1
import HandS.HeadHook2
import HandS.HeadHook3
import HandS.HeadHook4
import HandS.ExcInit
import HandS.ExcInitHot
import HandS.SuiteRaise
import HandS.RaiseFrom
import HandS.Conv
import HandS.SortRule
import HandS.SortInts
import HandS.SetFor
import HandS.ListItems
import HandS.ExcField
import PySem.Challenge.RW_lanescroll_k28_ways_to_what_has_not_come
set_option Elab.async false
set_option linter.all false
set_option maxRecDepth 100000
set_option maxHeartbeats 2000000
namespace Y
open PySem PySem.Spec PyProof.Rows
open L2

inductive D where
  | non | bl (b : Bool) | int (i : Int) | str (x : Str)
  | lst (ds : List D) | tup (ds : List D) | dic (kvs : List (Key × D))
  | obj (nm : Str) (fs : List (Str × D))
  | pr (a b : Int) | dit (kvs : List ((Int × Int) × D))

structure KC (K : PySem.W.Frag) (nm : Str) (C : Addr) : Prop where
  a : PySem.W.nsIn K mainGlobals nm = some (some (.ref C))
  c : Cls K C
  ha : PySem.W.findIn K (.ref C) "__class__" = some (some (.builtin "object.__class__"))
  hn : PySem.W.specialIn K (.builtin "object.__class__") "__get__" = some (some (.builtin "getset_descriptor.__get__"))
  ht : PySem.W.takesIn K (.builtin "object.__class__") = some true
  hm : PySem.W.mroIn K C (.type "object") = some true
  bt : ∀ t ∈ ["bool", "int", "str", "list", "tuple", "dict"], PySem.W.subIn K (.ref C) (.type t) = some false

abbrev Ex (H H' : Hp) : Prop := ∀ a o, H a = some o → H' a = some o
theorem Ex.refl (H : Hp) : Ex H H := fun _ _ h => h
theorem Ex.trans {H H1 H2 : Hp} (a : Ex H H1) (b : Ex H1 H2) : Ex H H2 := fun x o h => b x o (a x o h)
theorem Ex.new {H : Hp} {p : Addr} {o : HO} (h : H p = none) : Ex H (upd H p o) := fun a u e => by
  rw [upd_ne (ne_of_none e h)]
  exact e
theorem Ex.upd {B H : Hp} {p : Addr} {o : HO} (e : Ex B H) (h : B p = none) : Ex B (upd H p o) := fun a u ha => by
  rw [upd_ne (ne_of_none ha h)]
  exact e a u ha
theorem Ex.both {B H : Hp} {p : Addr} {o : HO} (e : Ex B H) : Ex (L2.upd B p o) (L2.upd H p o) := fun a u ha => by
  by_cases q : a = p
  · subst q; rw [upd_same] at ha; cases ha; exact upd_same
  · rw [upd_ne q] at ha; rw [upd_ne q]; exact e a u ha
theorem Ex.none {H H' : Hp} {p : Addr} (e : Ex H H') (h : H' p = none) : H p = none := by
  cases h1 : H p with
  | none => rfl
  | some o => rw [e p o h1] at h; cases h
theorem Ex.rd {H H' : Hp} {a : Addr} {u : HO} (e : Ex H H') (h : Rd H a u) : Rd H' a u := by
  rcases h with h | ⟨o, h⟩
  · exact Or.inl (e a _ h)
  · exact Or.inr ⟨o, e a _ h⟩
theorem Ex.l {K : PySem.W.Frag} {H H' : Hp} {a : Addr} {xs : List V} (e : Ex H H') (h : SqL K H a xs) : SqL K H' a xs := by
  rcases h with h | h
  · exact Or.inl (e.rd h)
  · exact Or.inr h
theorem Ex.t {K : PySem.W.Frag} {H H' : Hp} {a : Addr} {xs : List V} (e : Ex H H') (h : SqT K H a xs) : SqT K H' a xs := by
  rcases h with h | h
  · exact Or.inl (e.rd h)
  · exact Or.inr h

mutual
inductive Rep (K : PySem.W.Frag) (B : Hp) : V → D → Prop where
  | non : Rep K B .non .non
  | bl (b : Bool) : Rep K B (.bl b) (.bl b)
  | int (i : Int) : Rep K B (.int i) (.int i)
  | str (x : Str) : Rep K B (.str x) (.str x)
  | lst {p : Addr} {xs : List V} {ds : List D} (h : SqL K B p xs) (r : RepL K B xs ds) : Rep K B (.ref p) (.lst ds)
  | tup {p : Addr} {xs : List V} {ds : List D} (h : SqT K B p xs) (r : RepL K B xs ds) : Rep K B (.ref p) (.tup ds)
  | dic {p : Addr} {kvs : List (Key × V)} {ds : List (Key × D)} (h : B p = some (.dK kvs)) (r : RepK K B kvs ds) : Rep K B (.ref p) (.dic ds)
  | obj {p C dx : Addr} {nm : Str} {fs : List (Str × V)} {ds : List (Str × D)} (h : B p = some (.ins C dx fs)) (k : KC K nm C) (r : RepF K B fs ds) : Rep K B (.ref p) (.obj nm ds)
  | pr {p : Addr} {a b : Int} (h : B p = some (.tup [.int a, .int b])) : Rep K B (.ref p) (.pr a b)
  | dit {p : Addr} {kvs : List (List Key × V)} {ds : List ((Int × Int) × D)} (h : B p = some (.dT kvs)) (r : RepT K B kvs ds) : Rep K B (.ref p) (.dit ds)
inductive RepL (K : PySem.W.Frag) (B : Hp) : List V → List D → Prop where
  | nil : RepL K B [] []
  | cons {v : V} {d : D} {vs : List V} {ds : List D} (h : Rep K B v d) (t : RepL K B vs ds) : RepL K B (v :: vs) (d :: ds)
inductive RepK (K : PySem.W.Frag) (B : Hp) : List (Key × V) → List (Key × D) → Prop where
  | nil : RepK K B [] []
  | cons {k : Key} {v : V} {d : D} {vs : List (Key × V)} {ds : List (Key × D)} (h : Rep K B v d) (t : RepK K B vs ds) : RepK K B ((k, v) :: vs) ((k, d) :: ds)
inductive RepF (K : PySem.W.Frag) (B : Hp) : List (Str × V) → List (Str × D) → Prop where
  | nil : RepF K B [] []
  | cons {k : Str} {v : V} {d : D} {vs : List (Str × V)} {ds : List (Str × D)} (h : Rep K B v d) (t : RepF K B vs ds) : RepF K B ((k, v) :: vs) ((k, d) :: ds)
inductive RepT (K : PySem.W.Frag) (B : Hp) : List (List Key × V) → List ((Int × Int) × D) → Prop where
  | nil : RepT K B [] []
  | cons {a b : Int} {v : V} {d : D} {vs : List (List Key × V)} {ds : List ((Int × Int) × D)} (h : Rep K B v d) (t : RepT K B vs ds) : RepT K B (([.inl a, .inl b], v) :: vs) (((a, b), d) :: ds)
end
section
variable {K : PySem.W.Frag} {B B' H : Hp}
mutual
theorem Rep.mono (e : Ex B B') : ∀ {v : V} {d : D}, Rep K B v d → Rep K B' v d
  | _, _, .non => .non
  | _, _, .bl b => .bl b
  | _, _, .int i => .int i
  | _, _, .str x => .str x
  | _, _, .lst h r => .lst (e.l h) (RepL.mono e r)
  | _, _, .tup h r => .tup (e.t h) (RepL.mono e r)
  | _, _, .dic h r => .dic (e _ _ h) (RepK.mono e r)
  | _, _, .obj h k r => .obj (e _ _ h) k (RepF.mono e r)
  | _, _, .pr h => .pr (e _ _ h)
  | _, _, .dit h r => .dit (e _ _ h) (RepT.mono e r)
theorem RepL.mono (e : Ex B B') : ∀ {vs : List V} {ds : List D}, RepL K B vs ds → RepL K B' vs ds
  | _, _, .nil => .nil
  | _, _, .cons h t => .cons (Rep.mono e h) (RepL.mono e t)
theorem RepK.mono (e : Ex B B') : ∀ {vs : List (Key × V)} {ds : List (Key × D)}, RepK K B vs ds → RepK K B' vs ds
  | _, _, .nil => .nil
  | _, _, .cons h t => .cons (Rep.mono e h) (RepK.mono e t)
theorem RepF.mono (e : Ex B B') : ∀ {vs : List (Str × V)} {ds : List (Str × D)}, RepF K B vs ds → RepF K B' vs ds
  | _, _, .nil => .nil
  | _, _, .cons h t => .cons (Rep.mono e h) (RepF.mono e t)
theorem RepT.mono (e : Ex B B') : ∀ {vs : List (List Key × V)} {ds : List ((Int × Int) × D)}, RepT K B vs ds → RepT K B' vs ds
  | _, _, .nil => .nil
  | _, _, .cons h t => .cons (Rep.mono e h) (RepT.mono e t)
end
theorem RepL.length : ∀ {vs : List V} {ds : List D}, RepL K B vs ds → vs.length = ds.length
  | _, _, .nil => rfl
  | _, _, .cons _ t => congrArg Nat.succ (RepL.length t)
theorem RepL.get : ∀ {vs : List V} {ds : List D} {i : Nat} {d : D}, RepL K B vs ds → ds[i]? = some d → ∃ v, vs[i]? = some v ∧ Rep K B v d
  | _, _, _, _, .nil, e => by simp at e
  | _, _, 0, _, .cons r _, e => by simp at e; subst e; exact ⟨_, rfl, r⟩
  | _, _, i + 1, x, .cons _ t, e => by
    obtain ⟨u, h1, h2⟩ := RepL.get (i := i) (d := x) t (by simpa using e)
    exact ⟨u, by simpa using h1, h2⟩
theorem RepL.append : ∀ {vs ws : List V} {ds es : List D}, RepL K B vs ds → RepL K B ws es → RepL K B (vs ++ ws) (ds ++ es)
  | _, _, _, _, .nil, s => s
  | _, _, _, _, .cons r t, s => .cons r (RepL.append t s)
theorem RepL.at {vs : List V} {ds : List D} {i : Int} {d : D} (r : RepL K B vs ds) (h : atI ds i = some d) : ∃ v, atI vs i = some v ∧ Rep K B v d := by
  unfold atI at h ⊢
  rw [r.length]
  cases e : ixN ds.length i with
  | none => rw [e] at h; cases h
  | some j => rw [e] at h; exact r.get h
theorem RepL.ints : ∀ (ns : List Int), RepL K B (ns.map V.int) (ns.map D.int)
  | [] => .nil
  | n :: r => .cons (.int n) (RepL.ints r)
theorem RepL.of_ints : ∀ {vs : List V} {ns : List Int}, RepL K B vs (ns.map D.int) → vs = ns.map V.int
  | [], [], _ => rfl
  | _ :: _, [], r => nomatch r
  | [], _ :: _, r => nomatch r
  | v :: vs, n :: ns, r => by
    cases r with
    | cons h t =>
      cases h
      rw [RepL.of_ints t]
      rfl
end

def isTup : HO → Bool
  | .tup _ => true
  | _ => false
def Al (H H' : Hp) : Prop := ∀ a o, H a = some o → ∃ o', H' a = some o' ∧ (isTup o' = true → o' = o)
theorem Al.refl (H : Hp) : Al H H := fun _ o h => ⟨o, h, fun _ => rfl⟩
theorem Al.trans {H H1 H2 : Hp} (a : Al H H1) (b : Al H1 H2) : Al H H2 := fun x o h =>
  let ⟨o1, h1, t1⟩ := a x o h
  let ⟨o2, h2, t2⟩ := b x o1 h1
  ⟨o2, h2, fun z => (t2 z).trans (t1 (by rw [← t2 z]; exact z))⟩
theorem ntup {o o1 : HO} (t : isTup o1 = true → o1 = o) (h : isTup o = false) : isTup o1 = false := by
  cases e : isTup o1 with
  | false => rfl
  | true => rw [t e, h] at e; cases e
structure Stp (W : List Addr) (B H B' H' : Hp) : Prop where
  ex : Ex B B'
  ok : Ex B' H'
  fr : ∀ a o, a ∉ W → H a = some o → H' a = some o
  al : Al H H'
  nw : ∀ a o, isTup o = false → B a = none → H a = some o → B' a = none
section
variable {W W' : List Addr} {B H B' H' B1 H1 B2 H2 : Hp} {p : Addr} {o : HO}
theorem Stp.refl (w : Ex B H) : Stp W B H B H := ⟨Ex.refl B, w, fun _ _ _ h => h, Al.refl H, fun _ _ _ h _ => h⟩
theorem Stp.trans (a : Stp W B H B1 H1) (b : Stp W B1 H1 B2 H2) : Stp W B H B2 H2 :=
  ⟨a.ex.trans b.ex, b.ok, fun x o hx h => b.fr x o hx (a.fr x o hx h), a.al.trans b.al, fun x o ht hb h => let ⟨o1, h1, t1⟩ := a.al x o h; b.nw x o1 (ntup t1 ht) (a.nw x o ht hb h) h1⟩
theorem Stp.w (a : Stp W B H B1 H1) (h : ∀ x, x ∈ W → x ∈ W') : Stp W' B H B1 H1 := ⟨a.ex, a.ok, fun x o hx e => a.fr x o (fun z => hx (h x z)) e, a.al, a.nw⟩
theorem Stp.w0 (a : Stp [] B H B1 H1) : Stp W B H B1 H1 := a.w fun _ h => nomatch h
theorem Stp.new (w : Ex B H) (h : H p = none) : Stp W B H (upd B p o) (upd H p o) :=
  ⟨Ex.new (w.none h), w.both, fun a u _ e => Ex.new h a u e, fun a u e => ⟨u, Ex.new h a u e, fun _ => rfl⟩, fun a u _ hb e => by rw [upd_ne (ne_of_none e h)]; exact hb⟩
theorem Stp.newM (w : Ex B H) (h : H p = none) : Stp W B H B (upd H p o) :=
  ⟨Ex.refl B, w.upd (w.none h), fun a u _ e => Ex.new h a u e, fun a u e => ⟨u, Ex.new h a u e, fun _ => rfl⟩, fun a u _ hb _ => hb⟩
theorem Stp.set (w : Ex B H) (hp : p ∈ W) (hb : B p = none) {u : HO} (hu : H p = some u) (ho : isTup o = false := by rfl) : Stp W B H B (upd H p o) :=
  ⟨Ex.refl B, w.upd hb, fun a u hx e => by rw [upd_ne (fun z => hx (by rw [z]; exact hp))]; exact e, fun a u e => by
    by_cases q : a = p
    · subst q; exact ⟨o, upd_same, fun z => by rw [ho] at z; cases z⟩
    · exact ⟨u, by rw [upd_ne q]; exact e, fun _ => rfl⟩, fun _ _ _ h _ => h⟩
theorem Stp.own (a : Stp W B H B1 H1) (h0 : H p = none) (hb : B1 p = none) (h : ∃ u, H1 p = some u) : Stp W B H B1 (upd H1 p o) :=
  ⟨a.ex, a.ok.upd hb, fun x u hx e => by rw [upd_ne (ne_of_none e h0)]; exact a.fr x u hx e, fun x u e => by
    rw [upd_ne (ne_of_none e h0)]; exact a.al x u e, a.nw⟩
theorem Stp.keep (w : Ex B H) (a : Stp W B H B1 H1) (h0 : H p = none) (hb : B1 p = none) (h : H1 p = some o) : Stp W B H (upd B1 p o) H1 :=
  ⟨fun x u e => by rw [upd_ne (ne_of_none e (w.none h0))]; exact a.ex x u e, fun x u e => by
    by_cases q : x = p
    · subst q; rw [upd_same] at e; cases e; exact h
    · rw [upd_ne q] at e; exact a.ok x u e, a.fr, a.al, fun x u ht hb e => by rw [upd_ne (ne_of_none e h0)]; exact a.nw x u ht hb e⟩
end
structure Err where
  cls : Str
  args : List D := []
inductive Res (α : Type) where
  | ok (a : α) | err (e : Err) | stuck
def Res.bind {α β : Type} (m : Res α) (k : α → Res β) : Res β := match m with | .ok a => k a | .err e => .err e | .stuck => .stuck
def Res.noErr {α : Type} (m : Res α) : Res α := match m with | .ok a => .ok a | _ => .stuck
instance : Monad Res where
  pure := Res.ok
  bind := Res.bind
def Post0 {α : Type} (m : Res α) (P : α → Prop) (R : Err → Prop) : Prop := match m with | .ok a => P a | .err e => R e | .stuck => False
structure Post {α : Type} (m : Res α) (P : α → Prop) (R : Err → Prop) : Prop where
  h0 : Post0 m P R
section
variable {α β : Type} {m : Res α} {P P' : α → Prop} {R R' : Err → Prop} {a : α}
theorem Post.mono (h : Post m P R) (hp : ∀ a, P a → P' a) (hr : ∀ e, R e → R' e) : Post m P' R' := by
  obtain ⟨h⟩ := h
  refine ⟨?_⟩
  cases m with
  | ok a => exact hp a h
  | err e => exact hr e h
  | stuck => exact h
theorem Post.bind {k : α → Res β} {P : β → Prop} (h : Post (m.bind k) P R) : Post m (fun a => Post (k a) P R) R := by
  obtain ⟨h⟩ := h
  refine ⟨?_⟩
  cases m
  · exact ⟨h⟩
  · exact h
  · exact h
theorem Post.noErr (h : Post m.noErr P R) : Post m P (fun _ => False) := by
  obtain ⟨h⟩ := h
  refine ⟨?_⟩
  cases m with
  | ok a => exact h
  | err e => exact h
  | stuck => exact h
theorem Post.ok (h : Post (.ok a) P R) : P a := h.h0
theorem Post.err {e : Err} (h : Post (.err e : Res α) P R) : R e := h.h0
theorem Post.elim {C : Prop} (h : Post (.stuck : Res α) P R) : C := False.elim h.h0
theorem Post.iteT {c : Bool} {m m' : Res α} (h : Post (if c = true then m else m') P R) (hc : c = true) : Post m P R := by
  rw [if_pos hc] at h; exact h
theorem Post.iteF {c : Bool} {m m' : Res α} (h : Post (if c = true then m else m') P R) (hc : c = false) : Post m' P R := by
  rw [hc, if_neg Bool.false_ne_true] at h; exact h
theorem Post.is {m' : Res α} (h : Post m P R) (e : m = m') : Post m' P R := e ▸ h
end
def ixR {α : Type} (l : List α) (i : Int) : Res α := match atI l i with | some x => .ok x | none => .stuck
theorem Post.ix {α β : Type} {l : List α} {i : Int} {k : α → Res β} {P : β → Prop} {R : Err → Prop} (h : Post ((ixR l i).bind k) P R) : ∃ x, atI l i = some x ∧ Post (k x) P R := by
  unfold ixR at h
  cases e : atI l i with
  | none => rw [e] at h; exact h.elim
  | some x => rw [e] at h; exact ⟨x, rfl, h⟩
def guardR {α : Type} (c : Prop) [Decidable c] (m : Res α) : Res α := if c then m else .stuck
theorem Post.guard {α : Type} {c : Prop} [Decidable c] {m : Res α} {P : α → Prop} {R : Err → Prop} (h : Post (guardR c m) P R) : c ∧ Post m P R := by
  unfold guardR at h
  by_cases e : c
  · rw [if_pos e] at h; exact ⟨e, h⟩
  · rw [if_neg e] at h; exact h.elim
instance (i j : Int) : Decidable (CMulW i j) := by unfold CMulW; infer_instance
instance (i j : Int) : Decidable (CDivW i j) := by unfold CDivW; infer_instance
inductive Fl (S R : Type) where
  | nx (s : S) | rt (r : R) | bk (s : S)
def forR {α S R : Type} : List α → S → (α → S → Res (Fl S R)) → Res (Fl S R)
  | [], s, _ => .ok (.nx s)
  | x :: xs, s, f => (f x s).bind fun r => match r with | .nx s' => forR xs s' f | r => .ok r
theorem Post.forS {α S R : Type} {l : List α} {i : Nat} {s : S} {f : α → S → Res (Fl S R)} {P : Fl S R → Prop} {E : Err → Prop} {x : α} (h : Post (forR (l.drop i) s f) P E) (hx : l[i]? = some x) :
    Post (f x s) (fun r => match r with | .nx s' => Post (forR (l.drop (i + 1)) s' f) P E | .rt v => P (.rt v) | .bk s' => P (.bk s')) E := by
  obtain ⟨hi, e⟩ := List.getElem?_eq_some_iff.mp hx
  rw [List.drop_eq_getElem_cons hi, e] at h
  exact (Post.bind h).mono (fun r q => by
    cases r
    · exact q
    · exact q.ok
    · exact q.ok) fun _ q => q
theorem Post.forN {α S R : Type} {l : List α} {i : Nat} {s : S} {f : α → S → Res (Fl S R)} {P : Fl S R → Prop} {E : Err → Prop} (h : Post (forR (l.drop i) s f) P E) (hi : l.length ≤ i) : P (.nx s) := by
  rw [List.drop_eq_nil_of_le hi] at h
  exact h.ok

class Enc (α : Type) where
  enc : α → D
open Enc (enc)
structure Tp1 (α : Type) where
  a : α
structure Tp2 (α β : Type) where
  a : α
  b : β
structure Tp3 (α β γ : Type) where
  a : α
  b : β
  c : γ
structure Tp4 (α β γ δ : Type) where
  a : α
  b : β
  c : γ
  d : δ
structure Tp5 (α β γ δ ε : Type) where
  a : α
  b : β
  c : γ
  d : δ
  e : ε
instance : Enc Int := ⟨.int⟩
instance : Enc Bool := ⟨.bl⟩
instance : Enc Str := ⟨.str⟩
instance : Enc Unit := ⟨fun _ => .non⟩
instance : Enc D := ⟨id⟩
instance {α : Type} [Enc α] : Enc (List α) := ⟨fun l => .lst (l.map enc)⟩
instance {α : Type} [Enc α] : Enc (Option α) := ⟨fun o => match o with | some x => enc x | none => .non⟩
instance {α : Type} [Enc α] : Enc (Tp1 α) := ⟨fun t => .tup [enc t.a]⟩
instance {α β : Type} [Enc α] [Enc β] : Enc (Tp2 α β) := ⟨fun t => .tup [enc t.a, enc t.b]⟩
instance {α β γ : Type} [Enc α] [Enc β] [Enc γ] : Enc (Tp3 α β γ) := ⟨fun t => .tup [enc t.a, enc t.b, enc t.c]⟩
instance {α β γ δ : Type} [Enc α] [Enc β] [Enc γ] [Enc δ] : Enc (Tp4 α β γ δ) := ⟨fun t => .tup [enc t.a, enc t.b, enc t.c, enc t.d]⟩
instance {α β γ δ ε : Type} [Enc α] [Enc β] [Enc γ] [Enc δ] [Enc ε] : Enc (Tp5 α β γ δ ε) := ⟨fun t => .tup [enc t.a, enc t.b, enc t.c, enc t.d, enc t.e]⟩

def Mu (K : PySem.W.Frag) (B H : Hp) (p : Addr) (ds : List D) : Prop := B p = none ∧ ∃ xs, H p = some (.lst xs) ∧ RepL K B xs ds
def KL (K : PySem.W.Frag) (a : Addr) (xs : List V) : Prop := ∃ (o : Obj) (its : Array Value) (n : Nat), K.lookup a = some o ∧ o.cls = .type "list" ∧ o.dict = none ∧ o.data = .seq its n ∧ its.size ≤ sizeLine ∧ Vals xs its.toList
def Bor (K : PySem.W.Frag) (B H : Hp) (W : List Addr) (v : V) (ds : List D) : Prop := ∃ p xs, v = .ref p ∧ ((Rd H p (.lst xs) ∧ p ∉ W) ∨ KL K p xs) ∧ RepL K B xs ds
def Ret (K : PySem.W.Frag) (W : List Addr) (B H : Hp) (d : D) (Q : VK) : Prop := ∀ v B' H', Stp W B H B' H' → Rep K B' v d → Q v H'
def RetM (K : PySem.W.Frag) (p : Addr) (B H : Hp) (d : D) (ds : List D) (Q : VK) : Prop := ∀ v B' H', Stp [p] B H B' H' → Mu K B' H' p ds → Rep K B' v d → Q v H'
def XdOf (K : PySem.W.Frag) (as : List D) (d : Option Addr) (B H : Hp) : Prop := match as with
  | [] => d = none
  | _ => ∃ x fs, d = some x ∧ H x = some (.xd fs) ∧ RepL K B (fs.map (·.2)) as
def Rai (K : PySem.W.Frag) (mg : Str → Option Value) (W : List Addr) (B H : Hp) (e : Err) (E : XK) : Prop := ∀ C d B' H', mg e.cls = some (.ref C) → Stp W B H B' H' → XdOf K e.args d B' H' → E (.ref C) d H'
section
variable {K : PySem.W.Frag} {B B' B1 H H' H1 : Hp} {W : List Addr} {p q : Addr} {ds es : List D} {xs : List V} {d : D} {v : V} {Q : VK} {mg : Str → Option Value} {E : XK}
theorem Mu.step (m : Mu K B H p ds) (s : Stp W B H B' H') (h : p ∉ W) : Mu K B' H' p ds := by
  obtain ⟨hb, xs, hp, r⟩ := m
  exact ⟨s.nw p _ rfl hb hp, xs, s.fr p _ h hp, r.mono s.ex⟩
theorem Mu.new (w : Ex B H) (h : H p = none) (r : RepL K B xs ds) : Mu K B (upd H p (.lst xs)) p ds := ⟨w.none h, xs, upd_same, r⟩
theorem Mu.bor (m : Mu K B H p ds) (h : p ∉ W) : Bor K B H W (.ref p) ds := by
  obtain ⟨hb, xs, hp, r⟩ := m
  exact ⟨p, xs, rfl, .inl ⟨.inl hp, h⟩, r⟩
theorem Mu.ne (m : Mu K B H p ds) (h : H q = none) : p ≠ q := by
  obtain ⟨hb, xs, hp, r⟩ := m
  exact ne_of_none hp h
theorem Bor.step (m : Bor K B H W v ds) (s : Stp W B H B' H') : Bor K B' H' W v ds := by
  obtain ⟨p, xs, e, hp, r⟩ := m
  refine ⟨p, xs, e, ?_, r.mono s.ex⟩
  rcases hp with ⟨hp | ⟨o, hp⟩, hw⟩ | hp
  · exact .inl ⟨.inl (s.fr p _ hw hp), hw⟩
  · exact .inl ⟨.inr ⟨o, s.fr p _ hw hp⟩, hw⟩
  · exact .inr hp
theorem Bor.w {W' : List Addr} (m : Bor K B H W v ds) (h : ∀ x, x ∈ W' → x ∈ W) : Bor K B H W' v ds := by
  obtain ⟨p, xs, e, hp, r⟩ := m
  refine ⟨p, xs, e, ?_, r⟩
  rcases hp with ⟨hp, hw⟩ | hp
  · exact .inl ⟨hp, fun z => hw (h p z)⟩
  · exact .inr hp
theorem Bor.sq (m : Bor K B H W v ds) : ∃ p xs, v = .ref p ∧ SqL K H p xs ∧ RepL K B xs ds := by
  obtain ⟨p, xs, e, hp, r⟩ := m
  refine ⟨p, xs, e, ?_, r⟩
  rcases hp with ⟨hp, _⟩ | hp
  · exact .inl hp
  · exact .inr hp
theorem Rep.bor (w : Ex B H) (r : Rep K B v (.lst ds)) (h : ∀ x, x ∈ W → B x = none) : Bor K B H W v ds := by
  cases r with
  | @lst p xs _ hp r =>
    refine ⟨p, xs, rfl, ?_, r⟩
    rcases hp with hp | hp
    · refine .inl ⟨w.rd hp, fun z => ?_⟩
      have e := h p z
      rcases hp with hp | ⟨o, hp⟩
      · rw [hp] at e; cases e
      · rw [hp] at e; cases e
    · exact .inr hp
theorem Rep.bor0 (w : Ex B H) (r : Rep K B v (.lst ds)) : Bor K B H [] v ds := r.bor w (fun _ z => nomatch z)
theorem Rep.sq (w : Ex B H) (r : Rep K B v (.lst ds)) : ∃ p xs, v = .ref p ∧ SqL K H p xs ∧ RepL K B xs ds := by
  cases r with
  | @lst p xs _ hp r => exact ⟨p, xs, rfl, w.l hp, r⟩
theorem Rep.st (w : Ex B H) (r : Rep K B v (.tup ds)) : ∃ p xs, v = .ref p ∧ SqT K H p xs ∧ RepL K B xs ds := by
  cases r with
  | @tup p xs _ hp r => exact ⟨p, xs, rfl, w.t hp, r⟩
theorem Mu.sq (m : Mu K B H p ds) : ∃ xs, H p = some (.lst xs) ∧ SqL K H p xs ∧ RepL K B xs ds := by
  obtain ⟨hb, xs, hp, r⟩ := m
  exact ⟨xs, hp, SqL.of hp, r⟩
theorem Stp.mut (w : Ex B H) (m : Mu K B H p ds) (r : RepL K B xs es) : Stp [p] B H B (upd H p (.lst xs)) ∧ Mu K B (upd H p (.lst xs)) p es := by
  obtain ⟨hb, ys, hp, _⟩ := m
  exact ⟨Stp.set w (by simp) hb hp, hb, xs, upd_same, r⟩
end
def tyD : D → String
  | .non => "NoneType" | .bl _ => "bool" | .int _ => "int" | .str _ => "str" | .lst _ => "list" | .tup _ => "tuple" | .dic _ => "dict" | .obj _ _ => "object" | .pr _ _ => "tuple" | .dit _ => "dict"
def isObjD : D → Bool | .obj _ _ => true | _ => false
theorem Rep.ty {K : PySem.W.Frag} {B H : Hp} {v : V} {d : D} (w : Ex B H) (r : Rep K B v d) (hd : isObjD d = false) : TyX K H v (.type (tyD d)) := by
  cases r with
  | obj h k r => exact nomatch hd
  | non => exact .base .non
  | bl b => exact .base (.bl b)
  | int i => exact .base (.int i)
  | str x => exact .base (.str x)
  | lst h r =>
    rcases h with (h | ⟨o, h⟩) | ⟨o, its, n, h, hc, _⟩
    · exact .base (.lst (w _ _ h))
    · exact .base (.frz (w _ _ h))
    · exact .kList h hc
  | tup h r =>
    rcases h with (h | ⟨o, h⟩) | ⟨o, its, n, h, hc, _⟩
    · exact .base (.tup (w _ _ h))
    · exact .fTuple (w _ _ h)
    · exact .kTuple h hc
  | dic h r => exact .base (.dK (w _ _ h))
  | pr h => exact .base (.tup (w _ _ h))
  | dit h r => exact .base (.dT (w _ _ h))
def isS (s t : String) : Bool := s == t || (s == "bool" && t == "int")
def isA (t : String) (d : D) : Bool := isS (tyD d) t
theorem kit_tab : ∀ s ∈ ["NoneType", "bool", "int", "str", "list", "tuple", "dict"], ∀ t ∈ ["bool", "int", "str", "list", "tuple", "dict"], kitB s t = some (isS s t) := by decide +kernel
theorem tyD_in (d : D) (hd : isObjD d = false) : tyD d ∈ ["NoneType", "bool", "int", "str", "list", "tuple", "dict"] := by
  cases d
  case obj => exact nomatch hd
  all_goals simp [tyD]
theorem isS_obj : ∀ t ∈ ["bool", "int", "str", "list", "tuple", "dict"], isS "object" t = false := by decide +kernel
theorem meta_tab : ∀ t ∈ ["bool", "int", "str", "list", "tuple", "dict"], PySem.W.kitMeta t = true := by decide +kernel
theorem KC.kit {K : PySem.W.Frag} {nm : Str} {C : Addr} (k : KC K nm C) {t : String} (ht : t ∈ ["bool", "int", "str", "list", "tuple", "dict"]) : PySem.W.kitOne K (.ref C) (.type t) = some false := by
  unfold PySem.W.kitOne
  rw [if_neg (by simp)]
  show (if PySem.W.kitMeta t = true then PySem.W.subIn K (.ref C) (.type t) else none) = some false
  rw [if_pos (meta_tab t ht)]
  exact k.bt t ht
theorem KC.tyx {K : PySem.W.Frag} {nm : Str} {C p dx : Addr} {H : Hp} {fs : List (Str × V)} (k : KC K nm C) (h : H p = some (.ins C dx fs)) : TyX K H (.ref p) (.ref C) := .base (.ins h k.c k.ha k.hn k.ht k.hm)
theorem isi {K : PySem.W.Frag} {B H : Hp} {v : V} {d : D} {t : String} {Q : VK} (w : Ex B H) (r : Rep K B v d) (q : Q (.bl (isA t d)) H) (ht : t ∈ ["bool", "int", "str", "list", "tuple", "dict"] := by simp) : rIsi K [v, .ty t] H Q := by
  by_cases hd : isObjD d = true
  · cases r with
    | @obj p C dx nm fs ds h k r =>
      have e : isA t (.obj nm ds) = false := isS_obj t ht
      rw [e] at q
      exact ⟨_, .ty t, .ref C, .type t, false, rfl, .ty t, k.tyx (w _ _ h), k.kit ht, q⟩
    | _ => exact nomatch hd
  · have hd := Bool.eq_false_iff.mpr hd
    exact ⟨v, .ty t, _, .type t, isA t d, rfl, .ty t, r.ty w hd, kit_ty (kit_tab _ (tyD_in d hd) _ ht), q⟩
theorem boot_bool : bootBuiltins "bool" = some (.type "bool") := by decide +kernel
theorem boot_int : bootBuiltins "int" = some (.type "int") := by decide +kernel
theorem boot_list : bootBuiltins "list" = some (.type "list") := by decide +kernel
theorem boot_tuple : bootBuiltins "tuple" = some (.type "tuple") := by decide +kernel
theorem boot_dict : bootBuiltins "dict" = some (.type "dict") := by decide +kernel

def NwL (xs : List V) (H : Hp) (Q : VK) : Prop := ∀ p, H p = none → Q (.ref p) (upd H p (.lst xs))
def NwT (xs : List V) (H : Hp) (Q : VK) : Prop := ∀ p, H p = none → Q (.ref p) (upd H p (.tup xs))
def NewL (xs : List V) (H : Hp) (Q : VK) : Prop := xs.length ≤ sizeLine ∧ NwL xs H Q
def NewT (xs : List V) (H : Hp) (Q : VK) : Prop := xs.length ≤ sizeLine ∧ NwT xs H Q
section
variable {K : PySem.W.Frag} {σ σ' : L2.St} {H : Hp} {Q : VK} {D' : Ends} {te ta tb tc : TE} {tt tt' : TT} {t u z : TS} {tl : TA} {v x y : V} {i j : Int} {n : Nat} {r r' : R2} {W : List Addr}
theorem h_seq (h : t { D' with nx := u D' } σ H) : tSeq t u D' σ H := h
theorem h_set (h : te σ H fun x H1 => u D' (σ.set n (some x)) H1) : tSeq (tAsg te (gName n)) u D' σ H := h
theorem h_set1 (h : te σ H fun x H1 => D'.nx (σ.set n (some x)) H1) : tAsg te (gName n) D' σ H := h
theorem h_nrm {T : L2.St → Hp → Prop} (h : T σ' H) (e : σ' = σ := by rfl) : T σ H := e ▸ h
theorem h_drop (h : te σ H fun _ H1 => D'.nx σ H1) : tDrop te D' σ H := h
theorem h_ret (h : te σ H D'.rt) : tRet te D' σ H := h
theorem h_if {c : TT} (h : c σ H fun b H1 => if b = true then t D' σ H1 else u D' σ H1) : tIfS c t u D' σ H := h
theorem h_next (h : D'.nx σ H) : tNext D' σ H := h
theorem h_nx {a c d : L2.St → Hp → Prop} {b : VK} (h : a σ H) : (Ends.mk a b c d).nx σ H := h
theorem h_var (e : σ[n]? = some (some v)) (h : Q v H) : tVar n σ H Q := ⟨v, e, h⟩
theorem h_c (h : Q v H) : tC v σ H Q := h
theorem h_op (h : ta σ H fun x H1 => tb σ H1 fun y H2 => r x y H2 Q) : tOp r ta tb σ H Q := h
theorem h_I0 {g : Int → Int → V} (h : Q (g i j) H) : rI0 g (.int i) (.int j) H Q := ⟨i, j, rfl, rfl, h⟩
theorem h_I {C : Int → Int → Prop} {g : Int → Int → V} (c : C i j) (h : Q (g i j) H) : rI C g (.int i) (.int j) H Q := ⟨i, j, rfl, rfl, c, h⟩
theorem h_un {f : V → Hp → VK → Prop} (h : ta σ H fun x H1 => f x H1 Q) : tUn f ta σ H Q := h
theorem h_U {g : Int → V} (h : Q (g i) H) : rU g (.int i) H Q := ⟨i, rfl, h⟩
theorem dec_i : decide (V.int i = V.int j) = decide (i = j) := by simp
theorem h_eqI (h : Q (.bl (decide (i = j))) H) : rEq (.int i) (.int j) H Q := ⟨rfl, by rw [dec_i]; exact h⟩
theorem h_neI (h : Q (.bl (!decide (i = j))) H) : rNe (.int i) (.int j) H Q := ⟨rfl, by rw [dec_i]; exact h⟩
theorem h_chain (h : ta σ H fun x H1 => tb σ H1 fun y H2 => r x y H2 fun z H3 => ∃ k, z = .bl k ∧ (if k = true then tc σ H3 fun w' H4 => r' y w' H4 Q else Q (.bl false) H3)) : tChain r r' ta tb tc σ H Q := h
theorem h_and (h : ta σ H fun x H1 => ∃ c, x = .bl c ∧ if c = true then tb σ H1 Q else Q (.bl false) H1) : tAndV ta tb σ H Q := h
theorem h_or (h : ta σ H fun x H1 => ∃ c, x = .bl c ∧ if c = true then Q (.bl true) H1 else tb σ H1 Q) : tOrV ta tb σ H Q := h
theorem h_not (h : ta σ H fun x H1 => ∃ c, x = .bl c ∧ Q (.bl (!c)) H1) : tNotV ta σ H Q := h
theorem h_tand {Q : Bool → Hp → Prop} (h : tt σ H fun c H1 => if c = true then tt' σ H1 Q else Q false H1) : tAnd tt tt' σ H Q := h
theorem h_tor {Q : Bool → Hp → Prop} (h : tt σ H fun c H1 => if c = true then Q true H1 else tt' σ H1 Q) : tOr tt tt' σ H Q := h
theorem h_tnot {Q : Bool → Hp → Prop} (h : tt σ H fun c H1 => Q (!c) H1) : tNot tt σ H Q := h
theorem h_test {Q : Bool → Hp → Prop} (h : te σ H fun x H' => ∃ k, x = .bl k ∧ Q k H') : tTest te σ H Q := h
theorem h_tB {Q : Bool → Hp → Prop} (h : te σ H fun x H' => ∃ k, x = .bl k ∧ Q k H') : tB te σ H Q := h
theorem h_bl {b : Bool} {f : Bool → Prop} (h : f b) : ∃ k, V.bl b = .bl k ∧ f k := ⟨b, rfl, h⟩
theorem h_iteT {A B : Prop} (h : A) : if true = true then A else B := by rw [if_pos rfl]; exact h
theorem h_iteF {A B : Prop} (h : B) : if false = true then A else B := by rw [if_neg Bool.false_ne_true]; exact h
theorem h_ite {b : Bool} {A B : Prop} (h1 : b = true → A) (h2 : b = false → B) : if b = true then A else B := by
  cases b
  · exact h_iteF (h2 rfl)
  · exact h_iteT (h1 rfl)
theorem h_nil {Q : List V → Hp → Prop} (h : Q [] H) : tNil σ H Q := h
theorem h_cons {Q : List V → Hp → Prop} (h : te σ H fun x H1 => tl σ H1 fun xs H2 => Q (x :: xs) H2) : tCons te tl σ H Q := h
theorem h_cb {f : List V → Hp → VK → Prop} (h : tl σ H fun vs H1 => f vs H1 Q) : tCB f tl σ H Q := h
theorem h_call {sp : Sp} {dvs : List V} {E : XK} (h : tl σ H fun vs H1 => sp (vs ++ dvs) H1 Q E) : tCall sp dvs E tl σ H Q := h
theorem h_callS {sp : Sp} {E : L2.St → XK} (h : tl σ H fun vs H1 => sp vs H1 Q (E σ)) : tCallS sp E tl σ H Q := h
theorem h_tup (h : tl σ H fun xs H1 => NewT xs H1 Q) : tTup tl σ H Q := h
theorem h_lst (h : tl σ H fun xs H1 => NewL xs H1 Q) : tLst tl σ H Q := h
theorem h_ixL {p : Addr} {xs : List V} (s : SqL K H p xs) (e : atI xs i = some v) (h : Q v H) : rIxL K (.ref p) (.int i) H Q := ⟨p, xs, i, v, rfl, rfl, s, e, h⟩
theorem h_ixT {p : Addr} {xs : List V} (s : SqT K H p xs) (e : atI xs i = some v) (h : Q v H) : rIxT K (.ref p) (.int i) H Q := ⟨p, xs, i, v, rfl, rfl, s, e, h⟩
end

section
variable {K : PySem.W.Frag} {σ : L2.St} {B B1 B' H H1 H' B0 H0 : Hp} {Q : VK} {W W' : List Addr} {p q : Addr} {xs ys : List V} {ds es : List D} {v : V} {d : D} {i j : Int} {te ta tb : TE}
theorem h_newL (w : Ex B H) (r : RepL K B xs ds) (h : ∀ p B' H', Stp [] B H B' H' → Rep K B' (.ref p) (.lst ds) → Q (.ref p) H') (hn : xs.length ≤ sizeLine) : NewL xs H Q :=
  ⟨hn, fun p hp => h p _ _ (Stp.new w hp) (.lst (SqL.of upd_same) (r.mono (Ex.new (w.none hp))))⟩
theorem h_newT (w : Ex B H) (r : RepL K B xs ds) (h : ∀ p B' H', Stp [] B H B' H' → Rep K B' (.ref p) (.tup ds) → Q (.ref p) H') (hn : xs.length ≤ sizeLine) : NewT xs H Q :=
  ⟨hn, fun p hp => h p _ _ (Stp.new w hp) (.tup (SqT.of upd_same) (r.mono (Ex.new (w.none hp))))⟩
theorem h_newM (w : Ex B H) (r : RepL K B xs ds) (h : ∀ p H', H p = none → Stp [] B H B H' → Mu K B H' p ds → Q (.ref p) H') (hn : xs.length ≤ sizeLine) : NewL xs H Q :=
  ⟨hn, fun p hp => h p _ hp (Stp.newM w hp) (Mu.new w hp r)⟩
theorem h_nwL (w : Ex B H) (r : RepL K B xs ds) (h : ∀ p B' H', Stp [] B H B' H' → Rep K B' (.ref p) (.lst ds) → Q (.ref p) H') : NwL xs H Q :=
  fun p hp => h p _ _ (Stp.new w hp) (.lst (SqL.of upd_same) (r.mono (Ex.new (w.none hp))))
theorem h_nwT (w : Ex B H) (r : RepL K B xs ds) (h : ∀ p B' H', Stp [] B H B' H' → Rep K B' (.ref p) (.tup ds) → Q (.ref p) H') : NwT xs H Q :=
  fun p hp => h p _ _ (Stp.new w hp) (.tup (SqT.of upd_same) (r.mono (Ex.new (w.none hp))))
theorem h_nwM (w : Ex B H) (r : RepL K B xs ds) (h : ∀ p H', H p = none → Stp [] B H B H' → Mu K B H' p ds → Q (.ref p) H') : NwL xs H Q :=
  fun p hp => h p _ hp (Stp.newM w hp) (Mu.new w hp r)
theorem Stp.nn (s : Stp W B0 H0 B H) (h : H p = none) : H0 p = none := by
  cases e : H0 p with
  | none => rfl
  | some o => obtain ⟨u, q, _⟩ := s.al p o e; rw [h] at q; cases q
theorem nm0 : p ∉ ([] : List Addr) := fun z => nomatch z
theorem nm1 (h : p ≠ q) : p ∉ [q] := fun z => h (List.mem_singleton.mp z)
theorem sub0 : ∀ x, x ∈ ([] : List Addr) → x ∈ W := fun _ z => nomatch z
theorem Mu.keep (m : Mu K B H p ds) : ∃ B', Ex B B' ∧ (∀ q, q ≠ p → B q = none → B' q = none) ∧ (∀ W B0 H0, Stp W B0 H0 B H → Ex B0 H0 → H0 p = none → Stp W B0 H0 B' H) ∧ Rep K B' (.ref p) (.lst ds) := by
  obtain ⟨hb, xs, hp, r⟩ := m
  exact ⟨upd B p (.lst xs), Ex.new hb, fun q n e => by rw [upd_ne n]; exact e, fun W B0 H0 st w0 h0 => Stp.keep w0 st h0 hb hp, .lst (SqL.of upd_same) (r.mono (Ex.new hb))⟩
theorem Stp.go (a : Stp W B0 H0 B H) (s : Stp W' B H B' H') (h : ∀ p, p ∈ W' → p ∈ W ∨ H0 p = none) : Stp W B0 H0 B' H' :=
  ⟨a.ex.trans s.ex, s.ok, fun x u hx e => s.fr x u (fun z => by
      rcases h x z with q | q
      · exact hx q
      · rw [q] at e; cases e) (a.fr x u hx e), a.al.trans s.al, fun x u ht hb e => let ⟨u1, e1, t1⟩ := a.al x u e; s.nw x u1 (ntup t1 ht) (a.nw x u ht hb e) e1⟩
theorem go0 {F : Addr → Prop} : ∀ x, x ∈ ([] : List Addr) → F x := fun _ z => nomatch z
theorem go1 {F : Addr → Prop} (h : F p) : ∀ x, x ∈ [p] → F x := fun x z => by rw [List.mem_singleton.mp z]; exact h
theorem go2 {F : Addr → Prop} (h : F p) (h' : F q) : ∀ x, x ∈ [p, q] → F x := fun x z => by
  rcases List.mem_cons.mp z with e | e
  · rw [e]; exact h
  · rw [List.mem_singleton.mp e]; exact h'
theorem go3 {F : Addr → Prop} {r : Addr} (h : F p) (h' : F q) (h2 : F r) : ∀ x, x ∈ [p, q, r] → F x := fun x z => by
  rcases List.mem_cons.mp z with e | e
  · rw [e]; exact h
  · exact go2 h' h2 x e
theorem nm2 {r : Addr} (h : p ≠ q) (h' : p ≠ r) : p ∉ [q, r] := fun z => by
  rcases List.mem_cons.mp z with e | e
  · exact h e
  · exact h' (List.mem_singleton.mp e)
theorem Mu.kp (m : Mu K B H q es) (e : Ex B B') (k : ∀ q, q ≠ p → B q = none → B' q = none) (n : q ≠ p) : Mu K B' H q es := by
  obtain ⟨hb, xs, hp, r⟩ := m
  exact ⟨k q n hb, xs, hp, r.mono e⟩
theorem RepL.atE {α : Type} [Enc α] {l : List α} {x : α} (r : RepL K B xs (l.map enc)) (h : atI l i = some x) : ∃ v, atI xs i = some v ∧ Rep K B v (enc x) := by
  refine r.at ?_
  unfold atI at h ⊢
  rw [List.length_map]
  cases e : ixN l.length i with
  | none => rw [e] at h; cases h
  | some k =>
    rw [e] at h
    show (l.map enc)[k]? = _
    rw [List.getElem?_map, show l[k]? = some x from h]
    rfl
theorem h_pow {k : Int} (e : i ^ j.toNat = k) (c : CPow i j) (h : Q (.int k) H) : rI CPow (fun i j => .int (i ^ j.toNat)) (.int i) (.int j) H Q := ⟨i, j, rfl, rfl, c, by show Q (.int (i ^ j.toNat)) H; rw [e]; exact h⟩
instance (i j : Int) : Decidable (CPow i j) := by unfold CPow; infer_instance
instance (i j : Int) : Decidable (CMul i j) := by unfold CMul; infer_instance
instance (i j : Int) : Decidable (CDiv i j) := by unfold CDiv; infer_instance
def rLenY (K : PySem.W.Frag) : List V → Hp → VK → Prop := fun xs H Q => ∃ p ys, xs = [.ref p] ∧ (SqL K H p ys ∨ SqT K H p ys) ∧ Q (.int ys.length) H
def rListY (K : PySem.W.Frag) : List V → Hp → VK → Prop := fun xs H Q => ∃ p ys, xs = [.ref p] ∧ (SqL K H p ys ∨ SqT K H p ys) ∧ ∀ l, H l = none → Q (.ref l) (upd H l (.lst ys))
def rTupY (K : PySem.W.Frag) : List V → Hp → VK → Prop := fun xs H Q => ∃ p ys, xs = [.ref p] ∧ ((SqL K H p ys ∧ ∀ l, H l = none → Q (.ref l) (upd H l (.tup ys))) ∨ (SqT K H p ys ∧ Q (.ref p) H))
theorem cr_len {X : Cx} : CallR X (.builtin "len") (rLenY X.K) := call_len_seq
theorem cr_list {X : Cx} : CallR X (.type "list") (rListY X.K) := call_list_of
theorem cr_tuple {X : Cx} : CallR X (.type "tuple") (rTupY X.K) := call_tuple_of
theorem h_len {α : Type} [Enc α] {l : List α} (s : SqL K H p xs) (r : RepL K B xs (l.map enc)) (h : Q (.int l.length) H) : rLenY K [V.ref p] H Q := by
  refine ⟨p, xs, rfl, .inl s, ?_⟩
  rw [show xs.length = l.length from by rw [r.length, List.length_map]]
  exact h
theorem h_lenT (s : SqT K H p xs) (r : RepL K B xs ds) (h : Q (.int ds.length) H) : rLenY K [V.ref p] H Q := by
  refine ⟨p, xs, rfl, .inr s, ?_⟩
  rw [r.length]
  exact h
theorem h_listL (s : SqL K H p xs) (h : NwL xs H Q) : rListY K [V.ref p] H Q := ⟨p, xs, rfl, .inl s, h⟩
theorem h_tupL (s : SqL K H p xs) (h : NwT xs H Q) : rTupY K [V.ref p] H Q := ⟨p, xs, rfl, .inl ⟨s, h⟩⟩
theorem h_iteN {b : Bool} {A C : Prop} (h1 : b = false → A) (h2 : b = true → C) : if (!b) = true then A else C := by
  cases b
  · exact h_iteT (h1 rfl)
  · exact h_iteF (h2 rfl)
theorem h_iteNF {A C : Prop} (h : A) : if (!false) = true then A else C := h_iteT h
end

section
variable {K : PySem.W.Frag} {σ : L2.St} {B B1 B' H H1 H' B0 H0 : Hp} {Q : VK} {W W' : List Addr} {p q : Addr} {xs ys : List V} {ds es : List D} {v : V} {d : D} {t z tb : TS} {te : TE} {c tt : TT} {D' : Ends} {g : TG} {ti : TI}
variable {α β S R' : Type} {P : β → Prop} {R : Err → Prop}
theorem h_joinS {m : Res α} {k : α → Res β} (hP : Post (m.bind k) P R) (J : α → L2.St → Hp → Prop)
    (h1 : ∀ N : L2.St → Hp → Prop, (∀ a σ' H', J a σ' H' → Post (k a) P R → N σ' H') → Post m (fun a => Post (k a) P R) R → t { D' with nx := N } σ H)
    (h2 : ∀ a σ' H', J a σ' H' → Post (k a) P R → z D' σ' H') : tSeq t z D' σ H := h1 _ h2 hP.bind
theorem h_condJ {m : Res Bool} {k : Bool → Res β} {Qb : Bool → Hp → Prop} (hP : Post (m.bind k) P R) (J : Hp → Prop)
    (h1 : ∀ N : Bool → Hp → Prop, (∀ b H', J H' → Post (k b) P R → N b H') → Post m (fun b => Post (k b) P R) R → c σ H N)
    (h2 : ∀ b H', J H' → Post (k b) P R → Qb b H') : c σ H Qb := h1 _ h2 hP.bind
theorem h_exprJ {m : Res α} {k : α → Res β} (hP : Post (m.bind k) P R) (J : α → V → Hp → Prop)
    (h1 : ∀ N : VK, (∀ a v H', J a v H' → Post (k a) P R → N v H') → Post m (fun a => Post (k a) P R) R → te σ H N)
    (h2 : ∀ a v H', J a v H' → Post (k a) P R → Q v H') : te σ H Q := h1 _ h2 hP.bind
theorem h_gname {n : Nat} {Q : L2.St → Hp → Prop} (h : Q (σ.set n (some v)) H) : gName n v σ H Q := h
def afterR (k : S → Res β) : Fl S β → Res β
  | .nx s => k s | .rt r => .ok r | .bk s => k s
theorem h_joinF {m : Res (Fl S β)} {k : S → Res β} (hP : Post (m.bind (afterR k)) P R) (J : S → L2.St → Hp → Prop)
    (h1 : ∀ (N : L2.St → Hp → Prop) (T : Fl S β → Prop), (∀ a σ' H', J a σ' H' → T (.nx a) → N σ' H') → (∀ r, T (.rt r) → P r) → Post m T R → t { D' with nx := N } σ H)
    (h2 : ∀ a σ' H', J a σ' H' → Post (k a) P R → z D' σ' H') : tSeq t z D' σ H :=
  h1 _ (fun a => Post (afterR k a) P R) (fun a σ' H' j q => h2 a σ' H' j q) (fun _ q => (q : Post (.ok _) P R).ok) hP.bind
def turnR (l : List α) (f : α → S → Res (Fl S R')) (i : Nat) (P : Fl S R' → Prop) (R : Err → Prop) : Fl S R' → Prop
  | .nx s => Post (forR (l.drop i) s f) P R | .rt r => P (.rt r) | .bk s => P (.bk s)
theorem Post.turn {l : List α} {i : Nat} {s : S} {f : α → S → Res (Fl S R')} {P : Fl S R' → Prop} {x : α} (h : Post (forR (l.drop i) s f) P R) (hx : l[i]? = some x) : Post (f x s) (turnR l f (i + 1) P R) R :=
  (Post.forS h hx).mono (fun r q => by cases r <;> exact q) fun _ q => q

theorem h_forE (h : te σ H fun x H1 => tFor (iList K (tC x)) g tb D' σ H1) : tFor (iList K te) g tb D' σ H := h
theorem h_forL [Enc α] {l : List α} {s0 : S} {f : α → S → Res (Fl S β)} {k : S → Res β} (hP : Post ((forR l s0 f).bind (afterR k)) P R) (hs : SqL K H p xs) (hr : RepL K B xs (l.map enc))
    (J : S → L2.St → Hp → Prop) (h0 : J s0 σ H) (hl : ∀ s σ' H', J s σ' H' → SqL K H' p xs)
    (hb : ∀ (N : L2.St → Hp → Prop) (T : Fl S β → Prop) (x : α) v s σ' H', J s σ' H' → Rep K B v (enc x) → (∀ s' σ2 H2, J s' σ2 H2 → T (.nx s') → N σ2 H2) → (∀ r, T (.rt r) → P r) → (∀ s' σ2 H2, J s' σ2 H2 → T (.bk s') → D'.nx σ2 H2) → Post (f x s) T R →
      g v σ' H' fun σ2 H2 => tb { D' with nx := N, ct := N, bk := D'.nx } σ2 H2)
    (hd : ∀ s σ' H', J s σ' H' → Post (k s) P R → D'.nx σ' H') : tFor (iList K (tC (.ref p))) g tb D' σ H := by
  refine ⟨p, rfl, ⟨xs, hs⟩, for_list (K := K) (a := p) (xs := xs) (fun i σ' H' => ∃ s, J s σ' H' ∧ Post (forR (l.drop i) s f) (fun a => Post (afterR k a) P R) R) ⟨s0, h0, hP.bind⟩ (fun i σ' H' _ ⟨s, j, _⟩ => hl s σ' H' j) ?_ ?_⟩
  · rintro i y σ' H' hi ⟨s, j, q⟩
    obtain ⟨x, hx⟩ : ∃ x, l[i]? = some x := by
      have h1 := (List.getElem?_eq_some_iff.mp hi).1
      rw [hr.length, List.length_map] at h1
      exact ⟨l[i], List.getElem?_eq_getElem h1⟩
    obtain ⟨u, hu, ru⟩ := hr.get (i := i) (d := enc x) (by rw [List.getElem?_map, hx]; rfl)
    rw [hi] at hu; cases hu
    exact hb _ _ x y s σ' H' j ru (fun s' σ2 H2 j2 t2 => ⟨s', j2, t2⟩) (fun r t2 => (t2 : Post (.ok r) P R).ok) (fun s' σ2 H2 j2 t2 => hd s' σ2 H2 j2 t2) (q.turn hx)
  · rintro σ' H' ⟨s, j, q⟩
    exact hd s σ' H' j (q.forN (by rw [hr.length, List.length_map]; exact Nat.le_refl _))
def rngI (lo hi : Int) : List Int := (List.range (hi - lo).toNat).map fun (i : Nat) => lo + (i : Int)
theorem rngI_get {lo hi : Int} {i : Nat} (h : i < (hi - lo).toNat) : (rngI lo hi)[i]? = some (lo + (i : Int)) := by
  unfold rngI
  rw [List.getElem?_map, List.getElem?_range h]
  rfl
theorem rngI_len {lo hi : Int} : (rngI lo hi).length = (hi - lo).toNat := by
  unfold rngI
  rw [List.length_map, List.length_range]
def Rng1 (vs : List V) (g : TG) (tb : TS) (D' : Ends) (σ : L2.St) (H : Hp) : Prop := tFor (iRng1 (fun _ H Q => Q vs H)) g tb D' σ H
def Rng2 (vs : List V) (g : TG) (tb : TS) (D' : Ends) (σ : L2.St) (H : Hp) : Prop := tFor (iRng2 (fun _ H Q => Q vs H)) g tb D' σ H
theorem h_rng1 {ta : TA} (h : ta σ H fun vs H1 => Rng1 vs g tb D' σ H1) : tFor (iRng1 ta) g tb D' σ H := h
theorem h_rng2 {ta : TA} (h : ta σ H fun vs H1 => Rng2 vs g tb D' σ H1) : tFor (iRng2 ta) g tb D' σ H := h
theorem forRng {lo hi : Int} {s0 : S} {f : Int → S → Res (Fl S β)} {k : S → Res β} (hP : Post ((forR (rngI lo hi) s0 f).bind (afterR k)) P R)
    (J : S → L2.St → Hp → Prop) (h0 : J s0 σ H)
    (hb : ∀ (N : L2.St → Hp → Prop) (T : Fl S β → Prop) (x : Int) s σ' H', J s σ' H' → lo ≤ x → x < hi → (∀ s' σ2 H2, J s' σ2 H2 → T (.nx s') → N σ2 H2) → (∀ r, T (.rt r) → P r) → (∀ s' σ2 H2, J s' σ2 H2 → T (.bk s') → D'.nx σ2 H2) → Post (f x s) T R →
      g (.int x) σ' H' fun σ2 H2 => tb { D' with nx := N, ct := N, bk := D'.nx } σ2 H2)
    (hd : ∀ s σ' H', J s σ' H' → Post (k s) P R → D'.nx σ' H') :
    ∃ W : Nat → Nat → L2.St → Hp → Prop, (∃ m, W 0 m σ H) ∧ ∀ i m σ H, W i m σ H →
      ((Itr lo (hi - lo).toNat).stop i H ∧ D'.nx σ H) ∨ ((Itr lo (hi - lo).toNat).go i H ∧ ∃ N : L2.St → Hp → Prop, (∀ σ' H', N σ' H' → ∃ m', m' < m ∧ W (i + 1) m' σ' H') ∧ ∀ x H', (Itr lo (hi - lo).toNat).yld i H x H' → g x σ H' fun σ2 H2 => tb { D' with nx := N, ct := N, bk := D'.nx } σ2 H2) := by
  refine for_range (lo := lo) (n := (hi - lo).toNat) (fun i σ' H' => ∃ s, J s σ' H' ∧ Post (forR ((rngI lo hi).drop i) s f) (fun a => Post (afterR k a) P R) R) ⟨s0, h0, hP.bind⟩ ?_ ?_
  · rintro i σ' H' hi' ⟨s, j, q⟩
    exact hb _ _ (lo + (i : Int)) s σ' H' j (by omega) (by omega) (fun s' σ2 H2 j2 t2 => ⟨s', j2, t2⟩) (fun r t2 => (t2 : Post (.ok r) P R).ok) (fun s' σ2 H2 j2 t2 => hd s' σ2 H2 j2 t2) (q.turn (rngI_get hi'))
  · rintro σ' H' ⟨s, j, q⟩
    exact hd s σ' H' j (q.forN (by rw [rngI_len]; exact Nat.le_refl _))
theorem h_forR1 {hi : Int} {s0 : S} {f : Int → S → Res (Fl S β)} {k : S → Res β} (hP : Post ((forR (rngI 0 hi) s0 f).bind (afterR k)) P R) (hz : -(2 ^ 62) ≤ hi ∧ hi < 2 ^ 62)
    (J : S → L2.St → Hp → Prop) (h0 : J s0 σ H)
    (hb : ∀ (N : L2.St → Hp → Prop) (T : Fl S β → Prop) (x : Int) s σ' H', J s σ' H' → 0 ≤ x → x < hi → (∀ s' σ2 H2, J s' σ2 H2 → T (.nx s') → N σ2 H2) → (∀ r, T (.rt r) → P r) → (∀ s' σ2 H2, J s' σ2 H2 → T (.bk s') → D'.nx σ2 H2) → Post (f x s) T R →
      g (.int x) σ' H' fun σ2 H2 => tb { D' with nx := N, ct := N, bk := D'.nx } σ2 H2)
    (hd : ∀ s σ' H', J s σ' H' → Post (k s) P R → D'.nx σ' H') : Rng1 [.int hi] g tb D' σ H := by
  have q := forRng hP J h0 hb hd
  rw [Int.sub_zero] at q
  exact ⟨hi, rfl, hz.1, hz.2, q⟩
theorem h_forR2 {lo hi : Int} {s0 : S} {f : Int → S → Res (Fl S β)} {k : S → Res β} (hP : Post ((forR (rngI lo hi) s0 f).bind (afterR k)) P R) (hz : (-(2 ^ 62) ≤ lo ∧ lo < 2 ^ 62) ∧ -(2 ^ 62) ≤ hi ∧ hi < 2 ^ 62)
    (J : S → L2.St → Hp → Prop) (h0 : J s0 σ H)
    (hb : ∀ (N : L2.St → Hp → Prop) (T : Fl S β → Prop) (x : Int) s σ' H', J s σ' H' → lo ≤ x → x < hi → (∀ s' σ2 H2, J s' σ2 H2 → T (.nx s') → N σ2 H2) → (∀ r, T (.rt r) → P r) → (∀ s' σ2 H2, J s' σ2 H2 → T (.bk s') → D'.nx σ2 H2) → Post (f x s) T R →
      g (.int x) σ' H' fun σ2 H2 => tb { D' with nx := N, ct := N, bk := D'.nx } σ2 H2)
    (hd : ∀ s σ' H', J s σ' H' → Post (k s) P R → D'.nx σ' H') : Rng2 [.int lo, .int hi] g tb D' σ H :=
  ⟨lo, hi, rfl, ⟨hz.1.1, hz.1.2, hz.2.1, hz.2.2⟩, forRng hP J h0 hb hd⟩

def compL : List α → S → (α → S → Res (Option R' × S)) → Res (List R' × S)
  | [], s, _ => .ok ([], s)
  | x :: xs, s, f => (f x s).bind fun r => (compL xs r.2 f).bind fun q => .ok (match r.1 with | some b => b :: q.1 | none => q.1, q.2)
def compR (l : List α) (s : S) (f : α → S → Res (Option R' × S)) : Res (List R' × S) := guardR (l.length ≤ 1000000) (compL l s f)
def compT (l : List α) (f : α → S → Res (Option R' × S)) (k : List R' × S → Res β) (acc : List R') (P : β → Prop) (R : Err → Prop) : Option R' × S → Prop
  | (some b, s) => Post ((compL l s f).bind fun q => k (acc ++ [b] ++ q.1, q.2)) P R
  | (none, s) => Post ((compL l s f).bind fun q => k (acc ++ q.1, q.2)) P R
theorem Post.compS {l : List α} {i : Nat} {s : S} {f : α → S → Res (Option R' × S)} {k : List R' × S → Res β} {acc : List R'} {x : α} (h : Post ((compL (l.drop i) s f).bind fun q => k (acc ++ q.1, q.2)) P R) (hx : l[i]? = some x) :
    Post (f x s) (compT (l.drop (i + 1)) f k acc P R) R := by
  obtain ⟨hi, e⟩ := List.getElem?_eq_some_iff.mp hx
  rw [List.drop_eq_getElem_cons hi, e] at h
  have h2 := (Post.bind (Post.bind h))
  refine h2.mono (fun r q => ?_) fun _ q => q
  obtain ⟨o, s'⟩ := r
  cases o with
  | some b =>
    show Post ((compL (l.drop (i + 1)) s' f).bind fun q => k (acc ++ [b] ++ q.1, q.2)) P R
    have q1 : Post ((compL (l.drop (i + 1)) s' f).bind fun q => .ok (b :: q.1, q.2)) (fun a => Post (k (acc ++ a.1, a.2)) P R) R := q
    generalize compL (l.drop (i + 1)) s' f = m at q1 ⊢
    cases m with
    | ok a =>
      have q2 : Post (k (acc ++ (b :: a.1), a.2)) P R := q1.ok
      show Post (k (acc ++ [b] ++ a.1, a.2)) P R
      rw [List.append_assoc]
      exact q2
    | err e => exact ⟨q1.h0⟩
    | stuck => exact ⟨q1.h0⟩
  | none =>
    show Post ((compL (l.drop (i + 1)) s' f).bind fun q => k (acc ++ q.1, q.2)) P R
    have q1 : Post ((compL (l.drop (i + 1)) s' f).bind fun q => .ok (q.1, q.2)) (fun a => Post (k (acc ++ a.1, a.2)) P R) R := q
    generalize compL (l.drop (i + 1)) s' f = m at q1 ⊢
    cases m
    · exact q1.ok
    · exact ⟨q1.h0⟩
    · exact ⟨q1.h0⟩
theorem h_app1 [Enc α] {l : List α} {b : α} {y : V} {N : Hp → Prop} (w : Ex B H) (m : Mu K B H p (l.map enc)) (r : Rep K B y (enc b)) (hz : l.length < sizeLine) (h : ∀ H', Stp [p] B H B H' → Mu K B H' p ((l ++ [b]).map enc) → N H') :
    ∃ acc, H p = some (.lst acc) ∧ acc.length < sizeLine ∧ N (upd H p (.lst (acc ++ [y]))) := by
  obtain ⟨hb, xs, hp, hr⟩ := id m
  refine ⟨xs, hp, by rw [hr.length, List.length_map]; exact hz, ?_⟩
  have rl : RepL K B (xs ++ [y]) ((l ++ [b]).map enc) := by
    rw [List.map_append]
    exact hr.append (.cons r .nil)
  obtain ⟨s, m'⟩ := Stp.mut w m rl
  exact h _ s m'
def LcL (K : PySem.W.Frag) (v : V) (g : TG) (tt : TT) (te : TE) (vs : List Nat) (σ : L2.St) (H : Hp) (Q : VK) : Prop := tLc (iList K (tC v)) g tt te vs σ H Q
theorem h_lcE {vs : List Nat} {tl : TE} (h : tl σ H fun x H1 => LcL K x g tt te vs σ H1 Q) : tLc (iList K tl) g tt te vs σ H Q := h
def LcT (σ : L2.St) (vs : List Nat) (tt : TT) (te : TE) (Dl : Addr) (N : Hp → Prop) : L2.St → Hp → Prop := fun σ2 H2 => wipe σ2 vs = wipe σ vs ∧ tt σ2 H2 fun b H3 =>
  if b = true then te σ2 H3 fun y H4 => ∃ acc, H4 Dl = some (.lst acc) ∧ acc.length < sizeLine ∧ N (upd H4 Dl (.lst (acc ++ [y]))) else N H3
def App (Dl : Addr) (N : Hp → Prop) : VK := fun y H4 => ∃ acc, H4 Dl = some (.lst acc) ∧ acc.length < sizeLine ∧ N (upd H4 Dl (.lst (acc ++ [y])))
theorem h_lcT {vs : List Nat} {Dl : Addr} {N : Hp → Prop} {σ2 : L2.St} (e : wipe σ2 vs = wipe σ vs) (h : te σ2 H (App Dl N)) : LcT σ vs tYes te Dl N σ2 H := ⟨e, h⟩
theorem h_lcI {vs : List Nat} {Dl : Addr} {N : Hp → Prop} {σ2 : L2.St} (e : wipe σ2 vs = wipe σ vs) (h : tt σ2 H fun b H3 => if b = true then te σ2 H3 (App Dl N) else N H3) : LcT σ vs tt te Dl N σ2 H := ⟨e, h⟩
theorem h_app [Enc α] {l : List α} {b : α} {y : V} {N : Hp → Prop} (w : Ex B H) (m : Mu K B H p (l.map enc)) (r : Rep K B y (enc b)) (hz : l.length < sizeLine) (h : ∀ H', Stp [p] B H B H' → Mu K B H' p ((l ++ [b]).map enc) → N H') : App p N y H := h_app1 w m r hz h
theorem h_lcL [Enc α] {l : List α} {s0 : S} {f : α → S → Res (Option R' × S)} {k : List R' × S → Res β} {vs : List Nat} (hP : Post ((compR l s0 f).bind k) P R) (hs : SqL K H p xs) (hr : RepL K B xs (l.map enc))
    (J : Addr → List R' → S → Hp → Prop) (h0 : ∀ Dl, H Dl = none → J Dl [] s0 (upd H Dl (.lst []))) (hl : ∀ Dl acc s H', J Dl acc s H' → SqL K H' p xs)
    (hb : ∀ (Dl : Addr) (N : Hp → Prop) (T : Option R' × S → Prop) (x : α) v acc s H', J Dl acc s H' → Rep K B v (enc x) → acc.length < sizeLine → (∀ b s' H2, J Dl (acc ++ [b]) s' H2 → T (some b, s') → N H2) → (∀ s' H2, J Dl acc s' H2 → T (none, s') → N H2) → Post (f x s) T R →
      g v (wipe σ vs) H' (LcT σ vs tt te Dl N))
    (hd : ∀ Dl acc s H', J Dl acc s H' → Post (k (acc, s)) P R → Q (.ref Dl) H') : LcL K (.ref p) g tt te vs σ H Q := by
  refine ⟨p, rfl, ⟨xs, hs⟩, fun Dl hD => ?_⟩
  unfold compR at hP
  have hz : l.length ≤ 1000000 := by
    by_cases c : l.length ≤ 1000000
    · exact c
    · unfold guardR at hP; rw [if_neg c] at hP; exact hP.elim
  unfold guardR at hP
  rw [if_pos hz] at hP
  refine lc_list (K := K) (a := p) (xs := xs) (fun i H' => ∃ acc s, J Dl acc s H' ∧ acc.length ≤ i ∧ Post ((compL (l.drop i) s f).bind fun q => k (acc ++ q.1, q.2)) P R) ⟨[], s0, h0 Dl hD, Nat.le_refl _, hP⟩ (fun i H' _ ⟨acc, s, j, _⟩ => hl Dl acc s H' j) ?_ ?_
  · rintro i y H' hi ⟨acc, s, j, hn, q⟩
    have h1 := (List.getElem?_eq_some_iff.mp hi).1
    rw [hr.length, List.length_map] at h1
    obtain ⟨x, hx⟩ : ∃ x, l[i]? = some x := ⟨l[i], List.getElem?_eq_getElem h1⟩
    obtain ⟨u, hu, ru⟩ := hr.get (i := i) (d := enc x) (by rw [List.getElem?_map, hx]; rfl)
    rw [hi] at hu; cases hu
    exact hb Dl _ _ x y acc s H' j ru (Nat.lt_of_le_of_lt (Nat.le_trans hn (Nat.le_trans (Nat.le_of_lt h1) hz)) (by decide)) (fun b s' H2 j2 t2 => ⟨acc ++ [b], s', j2, by rw [List.length_append]; exact Nat.succ_le_succ hn, t2⟩) (fun s' H2 j2 t2 => ⟨acc, s', j2, Nat.le_succ_of_le hn, t2⟩) (q.compS hx)
  · rintro H' ⟨acc, s, j, _, q⟩
    rw [hr.length, List.length_map, List.drop_eq_nil_of_le (Nat.le_refl _)] at q
    have q2 : Post (k (acc ++ [], s)) P R := q
    rw [List.append_nil] at q2
    exact hd Dl acc s H' j q2
def LcR1 (ws : List V) (g : TG) (tt : TT) (te : TE) (vs : List Nat) (σ : L2.St) (H : Hp) (Q : VK) : Prop := tLc (iRng1 (fun _ H Q => Q ws H)) g tt te vs σ H Q
theorem h_lcR1E {vs : List Nat} {ta : TA} (h : ta σ H fun ws H1 => LcR1 ws g tt te vs σ H1 Q) : tLc (iRng1 ta) g tt te vs σ H Q := h
theorem h_lcR1 {hi : Int} {s0 : S} {f : Int → S → Res (Option R' × S)} {k : List R' × S → Res β} {vs : List Nat} (hP : Post ((compR (rngI 0 hi) s0 f).bind k) P R)
    (J : Addr → List R' → S → Hp → Prop) (h0 : ∀ Dl, H Dl = none → J Dl [] s0 (upd H Dl (.lst [])))
    (hb : ∀ (Dl : Addr) (N : Hp → Prop) (T : Option R' × S → Prop) (x : Int) acc s H', J Dl acc s H' → 0 ≤ x → x < hi → acc.length < sizeLine → (∀ b s' H2, J Dl (acc ++ [b]) s' H2 → T (some b, s') → N H2) → (∀ s' H2, J Dl acc s' H2 → T (none, s') → N H2) → Post (f x s) T R →
      g (.int x) (wipe σ vs) H' (LcT σ vs tt te Dl N))
    (hd : ∀ Dl acc s H', J Dl acc s H' → Post (k (acc, s)) P R → Q (.ref Dl) H') (hlo : -(2 ^ 62) ≤ hi) : LcR1 [.int hi] g tt te vs σ H Q := by
  unfold compR at hP
  have hz : (rngI 0 hi).length ≤ 1000000 := by
    by_cases c : (rngI 0 hi).length ≤ 1000000
    · exact c
    · unfold guardR at hP; rw [if_neg c] at hP; exact hP.elim
  unfold guardR at hP
  rw [if_pos hz] at hP
  rw [rngI_len, Int.sub_zero] at hz
  refine ⟨hi, rfl, hlo, by omega, fun Dl hD => ?_⟩
  refine lc_range (lo := 0) (n := hi.toNat) (fun i H' => ∃ acc s, J Dl acc s H' ∧ acc.length ≤ i ∧ Post ((compL ((rngI 0 hi).drop i) s f).bind fun q => k (acc ++ q.1, q.2)) P R) ⟨[], s0, h0 Dl hD, Nat.le_refl _, hP⟩ ?_ ?_
  · rintro i H' hi' ⟨acc, s, j, hn, q⟩
    have hx := rngI_get (lo := 0) (hi := hi) (i := i) (by omega)
    have e : (0 : Int) + (i : Int) = (i : Int) := Int.zero_add _
    exact hb Dl _ _ (0 + (i : Int)) acc s H' j (by omega) (by omega) (Nat.lt_of_le_of_lt (Nat.le_trans hn (Nat.le_trans (Nat.le_of_lt hi') hz)) (by decide)) (fun b s' H2 j2 t2 => ⟨acc ++ [b], s', j2, by rw [List.length_append]; exact Nat.succ_le_succ hn, t2⟩) (fun s' H2 j2 t2 => ⟨acc, s', j2, Nat.le_succ_of_le hn, t2⟩) (q.compS hx)
  · rintro H' ⟨acc, s, j, _, q⟩
    rw [List.drop_eq_nil_of_le (by rw [rngI_len]; omega)] at q
    have q2 : Post (k (acc ++ [], s)) P R := q
    rw [List.append_nil] at q2
    exact hd Dl acc s H' j q2
end

section
variable {K : PySem.W.Frag} {B B' H H' B0 H0 : Hp} {W : List Addr} {p : Addr} {xs : List V} {ds : List D} {v : V} {a b c d : L2.St → Hp → Prop} {rt : VK} {σ : L2.St}
theorem Rep.sqB (r : Rep K B v (.lst ds)) : ∃ p xs, v = .ref p ∧ SqL K B p xs ∧ RepL K B xs ds := by
  cases r with
  | @lst p xs _ hp r => exact ⟨p, xs, rfl, hp, r⟩
theorem Rep.stB (r : Rep K B v (.tup ds)) : ∃ p xs, v = .ref p ∧ SqT K B p xs ∧ RepL K B xs ds := by
  cases r with
  | @tup p xs _ hp r => exact ⟨p, xs, rfl, hp, r⟩
end

def setR {α : Type} (l : List α) (i : Int) (x : α) : Res (List α) := match ixN l.length i with | some j => .ok (l.set j x) | none => .stuck
def Bm (K : PySem.W.Frag) (T : String) (r : V → List V → Hp → VK → Prop) (t : TA) (σ : L2.St) (x : V) (H : Hp) (Q : VK) : Prop := tyV K T x H ∧ t σ H fun xs H2 => r x xs H2 Q
def Bm0 (K : PySem.W.Frag) (T : String) (r : V → List V → Hp → VK → Prop) (σ : L2.St) (x : V) (H : Hp) (Q : VK) : Prop := tyV K T x H ∧ r x [] H Q
section
variable {K : PySem.W.Frag} {σ : L2.St} {B H : Hp} {Q : VK} {p q : Addr} {v y : V} {te to ti : TE} {t : TA} {D' : Ends} {z : TS} {i : Int} {r : V → List V → Hp → VK → Prop}
theorem h_bm {T : String} (h : to σ H fun x H1 => Bm K T r t σ x H1 Q) : tBM K T r to t σ H Q := h
theorem h_bm0 {T : String} (h : to σ H fun x H1 => Bm0 K T r σ x H1 Q) : tBM0 K T r to σ H Q := h
theorem Mu.tyV {ds : List D} (m : Mu K B H p ds) : tyV K "list" (.ref p) H := by
  obtain ⟨hb, xs, hp, _⟩ := m
  exact .inl ⟨rfl, _, .inl (.inl hp)⟩
theorem h_bmL {ds : List D} (m : Mu K B H p ds) (h : t σ H fun xs H2 => r (.ref p) xs H2 Q) : Bm K "list" r t σ (.ref p) H Q := ⟨m.tyV, h⟩
theorem h_bmL0 {ds : List D} (m : Mu K B H p ds) (h : r (.ref p) [] H Q) : Bm0 K "list" r σ (.ref p) H Q := ⟨m.tyV, h⟩
theorem h_append {α : Type} [Enc α] {l : List α} {b : α} (w : Ex B H) (m : Mu K B H p (l.map enc)) (ry : Rep K B y (enc b)) (hz : l.length < 1000000) (h : ∀ H', Stp [p] B H B H' → Mu K B H' p ((l ++ [b]).map enc) → Q .non H') : rAppend (.ref p) [y] H Q := by
  obtain ⟨hb, xs, hp, hr⟩ := id m
  refine ⟨p, xs, y, rfl, rfl, hp, by rw [hr.length, List.length_map]; exact Nat.lt_of_lt_of_le hz (by decide), ?_⟩
  have rl : RepL K B (xs ++ [y]) ((l ++ [b]).map enc) := by
    rw [List.map_append]
    exact hr.append (.cons ry .nil)
  obtain ⟨s, m'⟩ := Stp.mut w m rl
  exact h _ s m'
theorem h_extend {α : Type} [Enc α] {l l2 : List α} (w : Ex B H) (m : Mu K B H p (l.map enc)) (m2 : Mu K B H q (l2.map enc)) (hz : l.length + l2.length ≤ 1000000) (h : ∀ H', Stp [p] B H B H' → Mu K B H' p ((l ++ l2).map enc) → Q .non H') : rExtend (.ref p) [.ref q] H Q := by
  obtain ⟨hb, xs, hp, hr⟩ := id m
  obtain ⟨hb2, ys, hp2, hr2⟩ := id m2
  refine ⟨p, q, xs, ys, rfl, rfl, hp, hp2, by rw [hr.length, hr2.length, List.length_map, List.length_map]; exact Nat.le_trans hz (by decide), ?_⟩
  have rl : RepL K B (xs ++ ys) ((l ++ l2).map enc) := by
    rw [List.map_append]
    exact hr.append hr2
  obtain ⟨s, m'⟩ := Stp.mut w m rl
  exact h _ s m'
theorem RepL.set : ∀ {vs : List V} {ds : List D} {j : Nat} {d : D}, RepL K B vs ds → Rep K B v d → RepL K B (vs.set j v) (ds.set j d)
  | _, _, _, _, .nil, _ => .nil
  | _, _, 0, _, .cons _ t, r => .cons r t
  | _, _, j + 1, _, .cons h t, r => .cons h (RepL.set t r)
theorem Post.set {α β : Type} {l : List α} {x : α} {k : List α → Res β} {P : β → Prop} {R : Err → Prop} (h : Post ((setR l i x).bind k) P R) : ∃ j, ixN l.length i = some j ∧ Post (k (l.set j x)) P R := by
  unfold setR at h
  cases e : ixN l.length i with
  | none => rw [e] at h; exact h.elim
  | some j => rw [e] at h; exact ⟨j, rfl, h⟩
theorem h_sub {N : L2.St → Hp → Prop} (h : to σ H fun o H1 => ti σ H1 fun i H2 => rSetL o i v H2 fun H3 => N σ H3) : gSub to ti rSetL v σ H N := h
theorem h_asg {g : TG} (h : te σ H fun x H1 => g x σ H1 D'.nx) : tAsg te g D' σ H := h
theorem h_setL {α : Type} [Enc α] {l : List α} {b : α} {N : Hp → Prop} {j : Nat} (w : Ex B H) (m : Mu K B H p (l.map enc)) (ry : Rep K B v (enc b)) (hj : ixN l.length i = some j) (h : ∀ H', Stp [p] B H B H' → Mu K B H' p ((l.set j b).map enc) → N H') : rSetL (.ref p) (.int i) v H N := by
  obtain ⟨hb, xs, hp, hr⟩ := id m
  refine ⟨p, xs, i, j, rfl, rfl, hp, by rw [hr.length, List.length_map]; exact hj, ?_⟩
  have rl : RepL K B (xs.set j v) ((l.set j b).map enc) := by
    rw [List.map_set]
    exact hr.set ry
  obtain ⟨s, m'⟩ := Stp.mut w m rl
  exact h _ s m'
end

def lt {α β : Type} (d : α) (k : α → Res β) : Res β := k d
theorem Post.lt {α β : Type} {d : α} {k : α → Res β} {P : β → Prop} {R : Err → Prop} (h : Post (Y.lt d k) P R) : Post (k d) P R := h

def rCatQ (K : PySem.W.Frag) : R2 := fun x y H Q => ∃ a b xs ys, x = .ref a ∧ y = .ref b ∧ SqL K H a xs ∧ SqL K H b ys ∧ xs.length + ys.length ≤ sizeLine ∧ NwL (xs ++ ys) H Q
theorem op_catQ {X : Cx} : OpR X (binaryOp .Add) (rCatQ X.K) := by
  intro pins s σ H x y v u Q I rx ry h
  obtain ⟨a, b, xs, ys, rfl, rfl, ha, hb, hz, q⟩ := h
  cases rx
  cases ry
  obtain ⟨its, r, p1, z1⟩ := I.list ha
  obtain ⟨its2, r2, p2, z2⟩ := I.list hb
  have hl1 := r.length
  have hl2 := r2.length
  obtain ⟨⟨cls, dd, data, sl⟩, ho, hc, n, hd⟩ := p1.isList
  obtain ⟨⟨cls2, dd2, data2, sl2⟩, ho2, hc2, n2, hd2⟩ := p2.isList
  simp only at hc hd hc2 hd2
  subst hc hd hc2 hd2
  have e : its.toArray ++ its2.toArray = (its ++ its2).toArray := by simp
  refine concat_meets ⟨_, ho, rfl⟩ ⟨_, ho2, rfl⟩ noFill_list_add seq_list_add PySem.F.slot_list_add PySem.F.entry_list_add (PySem.F.args_list_add_2 _ _) (list_addW a b its.toArray its2.toArray n n2 dd dd2 sl sl2 (by rw [List.size_toArray, List.size_toArray]; omega)) ⟨ho, ho2, ?_⟩
  rw [e]
  exact ⟨.ref _, _, I.lnew (t' := s.toks) (r.append r2) (by rw [List.length_append]; omega), rfl, q _ I.fresh⟩
def rSlQ (K : PySem.W.Frag) : V → Option Int → Option Int → Hp → VK → Prop := fun x lo hi H Q => ∃ a xs, x = .ref a ∧ SqL K H a xs ∧ NwL (cutV xs lo hi) H Q
theorem sl_Q {X : Cx} : SlR X (rSlQ X.K) := sl_list
def cutL {α : Type} (l : List α) (lo hi : Option Int) : List α := (l.drop (HT.sIx l.length 0 lo)).take (HT.sIx l.length l.length hi - HT.sIx l.length 0 lo)
mutual
def pyD : D → PyData
  | .non => .none | .bl b => .bool b | .int i => .int i | .str x => .str x | .lst ds => .list (pyDs ds) | .tup ds => .tuple (pyDs ds) | .dic _ => .dict [] | .obj _ _ => .dict [] | .pr a b => .tuple [.int a, .int b] | .dit _ => .dict []
def pyDs : List D → List PyData
  | [] => []
  | d :: ds => pyD d :: pyDs ds
end
mutual
def flatD : D → Bool
  | .lst ds => flatDs ds | .tup ds => flatDs ds | .dic _ => false | .obj _ _ => false | .dit _ => false | _ => true
def flatDs : List D → Bool
  | [] => true
  | d :: ds => flatD d && flatDs ds
end
def eqD (a b : D) : Bool := PyData.eqv (pyD a) (pyD b)
section
variable {K : PySem.W.Frag} {B B' H H' : Hp}
mutual
theorem Rep.dp (w : Ex B H) : ∀ {v : V} {d : D}, Rep K B v d → flatD d = true → Dp K H v (pyD d)
  | _, _, .non, _ => .non
  | _, _, .bl b, _ => .bl b
  | _, _, .int i, _ => .int i
  | _, _, .str x, _ => .str x
  | _, _, .lst h r, f => .lst (w.l h) (RepL.dp w r f)
  | _, _, .tup h r, f => .tup (w.t h) (RepL.dp w r f)
  | _, _, .dic h r, f => nomatch f
  | _, _, .obj h k r, f => nomatch f
  | _, _, .pr h, _ => .tup (SqT.of (w _ _ h)) (.cons (.int _) (.cons (.int _) .nil))
  | _, _, .dit h r, f => nomatch f
theorem RepL.dp (w : Ex B H) : ∀ {vs : List V} {ds : List D}, RepL K B vs ds → flatDs ds = true → DpAll K H vs (pyDs ds)
  | _, _, .nil, _ => .nil
  | _, _, .cons h t, f => by
    have f' : (flatD _ && flatDs _) = true := f
    rw [Bool.and_eq_true] at f'
    exact .cons (Rep.dp w h f'.1) (RepL.dp w t f'.2)
end
variable {σ : L2.St} {Q : VK} {x y v : V} {d e : D} {p q : Addr} {xs ys : List V} {i j k : Int} {tc te ta tb : TE} {lo hi : Option Int} {to tu : TO}
def okEq (d e : D) : Prop := flatD d = true ∧ flatD e = true ∧ SeqAt.shaped (pyD d) = true ∧ SeqAt.shaped (pyD e) = true
instance (d e : D) : Decidable (okEq d e) := by unfold okEq; infer_instance
theorem h_eqD (w : Ex B H) (rx : Rep K B x d) (ry : Rep K B y e) (o : okEq d e) (h : Q (.bl (eqD d e)) H) : rEqD K x y H Q := ⟨_, _, rx.dp w o.1, ry.dp w o.2.1, o.2.2.1, o.2.2.2, h⟩
theorem h_neD (w : Ex B H) (rx : Rep K B x d) (ry : Rep K B y e) (o : okEq d e) (h : Q (.bl (!eqD d e)) H) : rNeD K x y H Q := ⟨_, _, rx.dp w o.1, ry.dp w o.2.1, o.2.2.1, o.2.2.2, h⟩
theorem h_cat (s1 : SqL K H p xs) (s2 : SqL K H q ys) (hz : xs.length + ys.length ≤ sizeLine) (h : NwL (xs ++ ys) H Q) : rCatQ K (.ref p) (.ref q) H Q := ⟨p, q, xs, ys, rfl, rfl, s1, s2, hz, h⟩
theorem RepL.cat {α : Type} [Enc α] {l l2 : List α} (r : RepL K B xs (l.map enc)) (r2 : RepL K B ys (l2.map enc)) : RepL K B (xs ++ ys) ((l ++ l2).map enc) := by
  rw [List.map_append]; exact r.append r2
theorem RepL.take : ∀ {vs : List V} {ds : List D} (n : Nat), RepL K B vs ds → RepL K B (vs.take n) (ds.take n)
  | _, _, 0, _ => .nil
  | _, _, _ + 1, .nil => .nil
  | _, _, n + 1, .cons r t => .cons r (RepL.take n t)
theorem RepL.drop : ∀ {vs : List V} {ds : List D} (n : Nat), RepL K B vs ds → RepL K B (vs.drop n) (ds.drop n)
  | _, _, 0, r => r
  | _, _, _ + 1, .nil => .nil
  | _, _, n + 1, .cons _ t => RepL.drop n t
theorem RepL.cut {α : Type} [Enc α] {l : List α} (r : RepL K B xs (l.map enc)) (lo hi : Option Int) : RepL K B (cutV xs lo hi) ((cutL l lo hi).map enc) := by
  unfold cutV cutL
  rw [List.map_take, List.map_drop, r.length, List.length_map]
  exact (r.drop _).take _
theorem h_sl {r : V → Option Int → Option Int → Hp → VK → Prop} (h : te σ H fun x H1 => to σ H1 fun l H2 => tu σ H2 fun u H3 => r x l u H3 Q) : tSl r te to tu σ H Q := h
theorem h_part {N : Option Int → Hp → Prop} (h : te σ H fun x H1 => ∃ i, x = .int i ∧ N (some i) H1) : tPart te σ H N := h
theorem h_isI {f : Int → Prop} (h : f i) : ∃ j, V.int i = .int j ∧ f j := ⟨i, rfl, h⟩
theorem h_nopart {N : Option Int → Hp → Prop} (h : N none H) : tNoPart σ H N := h
theorem h_slQ (s : SqL K H p xs) (h : NwL (cutV xs lo hi) H Q) : rSlQ K (.ref p) lo hi H Q := ⟨p, xs, rfl, s, h⟩
theorem h_ch {g g' : Int → Int → Bool} (hc : ∀ Q : VK, Q (.int k) H → tc σ H Q) (h : Q (.bl (g i j && g' j k)) H) :
    rI0 (fun i j => .bl (g i j)) (.int i) (.int j) H (fun z H3 => ∃ c, z = .bl c ∧ (if c = true then tc σ H3 fun w' H4 => rI0 (fun i j => .bl (g' i j)) (.int j) w' H4 Q else Q (.bl false) H3)) := by
  refine ⟨i, j, rfl, rfl, g i j, rfl, ?_⟩
  cases e : g i j with
  | true =>
    refine h_iteT (hc _ ?_)
    rw [e, Bool.true_and] at h
    exact ⟨j, k, rfl, rfl, h⟩
  | false =>
    rw [e, Bool.false_and] at h
    exact h_iteF h
end
def tCallK0 (sp : Sp) (gV : List V → List V) (E : XK) (tk : TA) : TE := fun σ H Q => tk σ H fun zs H2 => sp (gV zs) H2 Q E
theorem pe_callK0 {X : Cx} {CX : CXT} {k : Nat} {f : Addr} {fd : FuncData} {ps ks : List Str} {sp : Sp} {E : XK} {x : Str} {p pos : Pos} {kws : List Keyword} {tk : TA} {g : List Value → List Value → List Value} {gV : List V → List V → List V}
    (F : FnOk X.prog X.w X.K X.mg X.base CX k f fd ps sp) (hr : Room k X.A) (hg : Gl X x) (hm : X.mg x = some (.ref f)) (hk : PySem.W.keepIn X.K (.ref f) = true) (hb : KBinds X.K fd ps ks g gV) (hx : Passes CX X E)
    (hkw : PK X kws tk) (hall : (backToKw pos (keywordEach kws X.env)).all (·.1.isSome) = true := by rfl) (hks : (backToKw pos (keywordEach kws X.env)).filterMap (·.1) = ks := by rfl)
    (hdb : (x == ("__debug__" : Str)) = false := by decide)
    (hpl : ((backTo pos (starEach [] X.env)).any (·.1) || (backToKw pos (keywordEach kws X.env)).any (·.1.isNone)) = false := by rfl) :
    PE X (.Call (.Name x p) [] kws pos) (tCallK0 sp (gV []) E tk) := by
  refine ⟨fun pins s σ H Q I h => ?_⟩
  refine wpAny_Call_Name_kw (ld_glob I hg hm ?_ hdb)
  refine PySem.W.callWith_KW0 (h₀ := X.base) I.ok.mod.kin hk hall ?_ hpl
  refine thn (hkw.run pos pins s σ H _ I h) fun ws s2 ⟨zs, H2, I2, rz, q2⟩ => ⟨I2.kIn, ?_⟩
  rw [hks]
  exact run_fnk F hr hb hx I2 .nil rz q2
theorem h_callK0 {σ : L2.St} {H : Hp} {Q : VK} {sp : Sp} {gV : List V → List V} {E : XK} {tk : TA} (h : tk σ H fun zs H2 => sp (gV zs) H2 Q E) : tCallK0 sp gV E tk σ H Q := h
theorem hu64_of {A : Around} {k : Nat} (hr : Room k A) : A.units + 64 < cLine := Nat.lt_of_le_of_lt (Nat.add_le_add_left (by decide : 64 ≤ 64) _) hr.units

section
variable {K : PySem.W.Frag} {B H : Hp} {σ : L2.St} {Q : VK} {tk tv : TE} {v : V} {d : D} {i : Int} {p : Addr} {xs : List V}
def rDictP (K : PySem.W.Frag) : List V → Hp → VK → Prop := fun xs H Q => ∃ (a : Addr) (ps : List Addr) (kvs : List (Key × V)), xs = [.ref a] ∧ SqL K H a (ps.map V.ref) ∧ Paired (fun p kv => SqT K H p [kV kv.1, kv.2]) ps kvs ∧
    ∀ p, H p = none → Q (.ref p) (upd H p (.dK (mergeK [] kvs)))
theorem cr_dict {X : Cx} (hc : X.calm = true) : CallR X (.type "dict") (rDictP X.K) := call_dictP hc
def vD : V → D
  | .int i => .int i | .bl b => .bl b | .str x => .str x | _ => .non
theorem RepK.ints : ∀ {kvs : List (Key × V)}, (∀ kv ∈ kvs, ∃ i, kv.2 = V.int i) → RepK K B kvs (kvs.map fun kv => (kv.1, vD kv.2))
  | [], _ => .nil
  | (k, v) :: r, h => by
    obtain ⟨i, e⟩ := h (k, v) List.mem_cons_self
    have e' : v = V.int i := e
    subst e'
    exact .cons (.int i) (RepK.ints fun kv m => h kv (List.mem_cons_of_mem _ m))
end
def asI (d : D) : Res Int := match d with | .int i => .ok i | _ => .stuck
theorem Post.asI {β : Type} {d : D} {k : Int → Res β} {P : β → Prop} {R : Err → Prop} (h : Post ((Y.asI d).bind k) P R) : ∃ i, d = .int i ∧ Post (k i) P R := by
  cases d with
  | int i => exact ⟨i, rfl, h⟩
  | _ => exact h.elim
def un2 {α β γ : Type} (k : α → β → γ) (p : α × β) : γ := k p.1 p.2
theorem Post.un2 {α β γ : Type} {k : α → β → Res γ} {a : α} {b : β} {P : γ → Prop} {R : Err → Prop} (h : Post (Y.un2 k (a, b)) P R) : Post (k a b) P R := h
def asT (d : D) : Res (List D) := match d with | .tup l => .ok l | _ => .stuck
theorem enc_Ds (l : List D) : (l.map enc : List D) = l := List.map_id' _
theorem Post.asT {β : Type} {d : D} {k : List D → Res β} {P : β → Prop} {R : Err → Prop} (h : Post ((Y.asT d).bind k) P R) : ∃ l : List D, d = .tup (l.map enc) ∧ Post (k l) P R := by
  cases d with
  | tup l => exact ⟨l, by rw [enc_Ds], h⟩
  | _ => exact h.elim
section
variable {K : PySem.W.Frag} {B H : Hp} {Q : VK} {p : Addr} {xs : List V}
theorem RepL.bools : ∀ {xs : List V} {bs : List Bool}, RepL K B xs (bs.map enc) → xs = bs.map V.bl
  | [], [], _ => rfl
  | _ :: _, [], r => nomatch r
  | [], _ :: _, r => nomatch r
  | v :: vs, b :: bs, r => by
    cases r with
    | cons h t =>
      cases h
      rw [RepL.bools t]
      rfl
theorem RepL.intsV : ∀ {xs : List V} {bs : List Int}, RepL K B xs (bs.map enc) → xs = bs.map V.int
  | [], [], _ => rfl
  | _ :: _, [], r => nomatch r
  | [], _ :: _, r => nomatch r
  | v :: vs, b :: bs, r => by
    cases r with
    | cons h t =>
      cases h
      rw [RepL.intsV t]
      rfl
theorem h_all {bs : List Bool} (s : SqL K H p xs) (r : RepL K B xs (bs.map enc)) (h : Q (.bl (bs.all id)) H) : rAll K [.ref p] H Q := ⟨p, bs, rfl, by rw [← r.bools]; exact s, h⟩
theorem h_any {bs : List Bool} (s : SqL K H p xs) (r : RepL K B xs (bs.map enc)) (h : Q (.bl (bs.any id)) H) : rAny K [.ref p] H Q := ⟨p, bs, rfl, by rw [← r.bools]; exact s, h⟩
theorem h_sum {ns : List Int} (s : SqL K H p xs) (r : RepL K B xs (ns.map enc)) (h : Q (.int ns.sum) H) : rSum K [.ref p] H Q := ⟨p, ns, rfl, by rw [← r.intsV]; exact s, h⟩
end
def spTop (K : PySem.W.Frag) : Sp := fun vs H Q _ => ∃ (a : Addr) (ns : List Int), vs = [.ref a] ∧ ns.length ≤ 63 ∧ SqL K H a (ns.map V.int) ∧ ∀ H', Q (.bl true) H'
theorem top_of {K : PySem.W.Frag} {m : List Int → Res Bool} (hm : ∀ ns : List Int, ns.length ≤ 63 → m ns = .ok true) {vs : List V} {H : Hp} {Q : VK} {E : XK} (h : spTop K vs H Q E) :
    ∃ (B : Hp) (v : V) (a : List Int), Ex B H ∧ vs = [v] ∧ Bor K B H [] v (a.map enc) ∧ Post (m a) (fun r => Ret K [] B H (enc r) Q) (fun _ => False) := by
  obtain ⟨a, ns, e, hl, hs, k⟩ := h
  refine ⟨H, .ref a, ns, Ex.refl H, e, ⟨a, _, rfl, ?_, RepL.ints ns⟩, ?_⟩
  · rcases hs with hs | hs
    · exact .inl ⟨hs, fun z => nomatch z⟩
    · exact .inr hs
  · rw [hm ns hl]
    refine ⟨fun v B' H' st r => ?_⟩
    cases r
    exact k H'
theorem _root_.L2.Fun.kb {K : PySem.W.Frag} {x qual : Str} {st : Stmt} {f : Addr} {fd : FuncData} {ps ks : List Str} {g : List Value → List Value → List Value} {gV : List V → List V → List V} (F : Fun K x qual st f fd)
    (h : ∀ (kV doc pm : Value) (an : Option Addr) (cdv ct : Value) (us ws : List Value), (g us ws).length = ps.length → bindArgs (PySem.W.fnOf x qual (defArgs st) (defBody st) (defScope st) .none kV doc pm an cdv ct) ⟨us, ks.zip ws⟩ = pure (ps.zip (g us ws)))
    (r : ∀ {vs : List V} {us : List Value} {zs : List V} {ws : List Value}, Vals vs us → Vals zs ws → Vals (gV vs zs) (g us ws)) : KBinds K fd ps ks g gV := by
  obtain ⟨oc, od, kV, doc, pm, an, cdv, ct, osl, rfl, lk, hcd⟩ := F.ex
  exact ⟨fun s us ws _ hl => .of_eq (h kV doc pm an cdv ct us ws hl), r⟩

def whileR {S R : Type} : Nat → S → (S → Res (Fl S R)) → Res (Fl S R)
  | 0, _, _ => .stuck
  | n + 1, s, g => (g s).bind fun r => match r with | .nx s' => whileR n s' g | r => .ok r
section
variable {K : PySem.W.Frag} {σ : L2.St} {H : Hp} {Q : VK} {tb t : TS} {c : TT} {D' : Ends} {S β : Type} {P : β → Prop} {E : Err → Prop}
theorem h_while {n : Nat} {s0 : S} {f : S → Res (Fl S β)} {k : S → Res β} (hP : Post ((whileR n s0 f).bind (afterR k)) P E) (J : S → L2.St → Hp → Prop) (h0 : J s0 σ H)
    (hb : ∀ (N : L2.St → Hp → Prop) (C : (L2.St → Hp → Prop) → Prop) (T : Fl S β → Prop) s σ' H', J s σ' H' → C N → (∀ s' σ2 H2, J s' σ2 H2 → T (.nx s') → N σ2 H2) → (∀ r, T (.rt r) → P r) → (∀ s' σ2 H2, J s' σ2 H2 → T (.bk s') → D'.nx σ2 H2) → Post (f s) T E →
      c σ' H' fun b H1 => if b = true then ∃ N, C N ∧ tb { D' with nx := N, ct := N, bk := D'.nx } σ' H1 else D'.nx σ' H1)
    (hd : ∀ s σ' H', J s σ' H' → Post (k s) P E → D'.nx σ' H') : tWhile c tb D' σ H := by
  refine ⟨fun m σ' H' => ∃ s, J s σ' H' ∧ Post (whileR m s f) (fun a => Post (afterR k a) P E) E, ⟨n, s0, h0, hP.bind⟩, ?_⟩
  rintro m σ' H' ⟨s, j, q⟩
  cases m with
  | zero => exact Post.elim q
  | succ m =>
    refine hb (fun σ2 H2 => ∃ s', J s' σ2 H2 ∧ Post (whileR m s' f) (fun a => Post (afterR k a) P E) E) (fun N => ∀ σ2 H2, N σ2 H2 → ∃ m', m' < m + 1 ∧ ∃ s, J s σ2 H2 ∧ Post (whileR m' s f) (fun a => Post (afterR k a) P E) E)
      (fun r => match r with | .nx s' => Post (whileR m s' f) (fun a => Post (afterR k a) P E) E | .rt r => Post (.ok r) P E | .bk s' => Post (k s') P E) s σ' H' j (fun σ2 H2 h => ⟨m, Nat.lt_succ_self m, h⟩)
      (fun s' σ2 H2 j2 t2 => ⟨s', j2, t2⟩) (fun r t2 => Post.ok t2) (fun s' σ2 H2 j2 t2 => hd s' σ2 H2 j2 t2) ?_
    refine (Post.bind q).mono (fun r q => ?_) fun _ q => q
    cases r with
    | nx s' => exact q
    | rt r => exact q.ok
    | bk s' => exact q.ok
def tryR {α : Type} (m : Res α) (h : Err → Res α) : Res α := match m with | .ok a => .ok a | .err e => h e | .stuck => .stuck
theorem Post.tr {α : Type} {m : Res α} {h : Err → Res α} {P : α → Prop} {R : Err → Prop} (q : Post (tryR m h) P R) : Post m P (fun e => Post (h e) P R) := by
  obtain ⟨q⟩ := q
  refine ⟨?_⟩
  cases m
  · exact q
  · exact ⟨q⟩
  · exact q
theorem h_tryJ {m : Res (Fl S β)} {h : Err → Res (Fl S β)} {k : S → Res β} (hP : Post ((tryR m h).bind (afterR k)) P E) (J : S → L2.St → Hp → Prop)
    (h1 : ∀ (N : L2.St → Hp → Prop) (T : Fl S β → Prop), (∀ s σ' H', J s σ' H' → T (.nx s) → N σ' H') → (∀ r, T (.rt r) → P r) → Post m T (fun e => Post (h e) T E) → t { D' with nx := N } σ H)
    (h2 : ∀ s σ' H', J s σ' H' → Post (k s) P E → D'.nx σ' H') : t D' σ H := by
  refine h1 _ (fun a => Post (afterR k a) P E) (fun s σ' H' j q => h2 s σ' H' j q) (fun r q => (q : Post (.ok r) P E).ok) ?_
  exact (Post.bind hP).tr
structure ExcT (K : PySem.W.Frag) (mg : Str → Option Value) (nm : Str) (C : Addr) : Prop where
  g : mg nm = some (.ref C)
  ec : ExcC K C
  ty : PySem.W.typeIn K (.ref C) = some (.type "type")
  kp : PySem.W.keepIn K (.ref C) = true
  ve : PySem.W.subIn K (.ref C) (.type "ValueError") = some true
  is : PySem.W.isClsIn K C = true
  self : PySem.W.subIn K (.ref C) (.ref C) = some true
structure ExcR (K : PySem.W.Frag) (mg : Str → Option Value) (nm : Str) (C : Addr) : Prop extends ExcT K mg nm C where
  ex : PySem.W.excIn K C [.type "ValueError", .type "Exception", .type "BaseException", .type "object"] "ValueError.__new__" = true
theorem ExcT.names {X : Cx} {nm : Str} {C : Addr} (T : ExcT X.K X.mg nm C) (hg : Gl X nm) (hd : (nm == ("__debug__" : Str)) = false) : Names X nm (.ref C) := ⟨hg, hd, .inl T.g⟩
theorem ExcT.exm {mg : Str → Option Value} {nm : Str} {C : Addr} (T : ExcT K mg nm C) {cls : Value} {b : Bool} (h : PySem.W.subIn K cls (.ref C) = some b) : PySem.W.exmOne K cls (.ref C) = some b := PySem.W.exm_ref T.ec.hs T.ec.hd T.ty h
theorem ExcT.kit {mg : Str → Option Value} {nm : Str} {C C2 : Addr} (T : ExcT K mg nm C) {b : Bool} (h : PySem.W.subIn K (.ref C2) (.ref C) = some b) : PySem.W.kitOne K (.ref C2) (.ref C) = some b := by
  unfold PySem.W.kitOne
  by_cases e : (Value.ref C2 == Value.ref C) = true
  · rw [if_pos e]
    have e2 : C2 = C := Value.ref.inj (beq_iff_eq.mp e)
    subst e2
    exact T.self.symm.trans h
  · rw [if_neg e]
    have h2 : (PySem.W.clsIn K C).isSome = true := T.is
    show (if ((PySem.W.clsIn K C).isSome && PySem.W.typeIn K (.ref C) == some (.type "type")) = true then PySem.W.subIn K (.ref C2) (.ref C) else none) = some b
    rw [if_pos (by rw [h2, T.ty] <;> rfl)]
    exact h
theorem h_isER {a C C2 : Addr} {b : Bool} (h : PySem.W.kitOne K (.ref C) (.ref C2) = some b) (q : Q (.bl b) H) : rIsE K C a [.ref a, .ref C2] H Q := ⟨.ref C2, .ref C2, b, rfl, fun _ r => r, h, q⟩
theorem h_wOnly {C S' : Addr} {ts : Addr → Value → Option Addr → TS} {Wout : WX} {mg : Str → Option Value} {nm : Str} (T : ExcT K mg nm S') (hs : PySem.W.subIn K (.ref C) (.ref S') = some true)
    (h : ∀ a, H a = none → ts a (.ref C) none D' σ H) : wOnly K (.ref S') ts Wout D' (.ref C) none σ H := ⟨true, T.exm hs, fun _ a ha => h a ha, fun q => nomatch q⟩
end

def tTryA (K : PySem.W.Frag) (c : Value) (i : Nat) (ts : Addr → Value → Option Addr → TS) (Wout : WX) (tb : WX → TS) : TS := fun D σ H => tb (wAs K c i ts Wout D) D σ H
def tTryO (K : PySem.W.Frag) (c : Value) (ts : Addr → Value → Option Addr → TS) (Wout : WX) (tb : WX → TS) : TS := fun D σ H => tb (wOnly K c ts Wout D) D σ H
section
variable {X : Cx} {n x : Str} {c : Value} {i : Nat} {body suite : List Stmt} {b₀ : Stmt} {np pos pos' : Pos} {tb : WX → TS} {ts : Addr → Value → Option Addr → TS} {Wout : WX} {D' : Ends} {σ : L2.St} {H : Hp} {K : PySem.W.Frag}
theorem ps_tryA (hs : X.stack = X.env :: X.outer) (hf : X.env.frame = some X.env.locals) (hN : X.N.Nodup) (hi : X.N[i]? = some n) (hln : X.env.kindOf n = some .local) (hc : Names X x c) (tk : Takes X Wout)
    (hb : ∀ (W : WX) (pn : List (Addr × Obj)) (xe : Value → Shared → Prop), Takes (X.tr pn xe) W → PassesOwn (model X.prog X.w) X.A X.env xe → PSs (X.tr pn xe) body (tb W))
    (hsu : ∀ (a : Addr) (oe : Obj) (cls : Value) (d : Option Addr) (pn : List (Addr × Obj)), Zc cls d oe → (∃ vs, oe.data = .fields vs) → PSs (X.suite a ((a, oe) :: pn)) (b₀ :: suite) (ts a cls d)) (hK : X.K = K := by rfl) :
    PS X (.Try body [.ExceptHandler (some (.Name x np)) (some n) (b₀ :: suite) pos'] [] [] pos) (tTryA K c i ts Wout tb) := hK ▸ ps_try_as hs hf hN hi hln hc tk hb hsu
theorem ps_tryO (hs : X.stack = X.env :: X.outer) (hf : X.env.frame = some X.env.locals) (hc : Names X x c) (tk : Takes X Wout)
    (hb : ∀ (W : WX) (pn : List (Addr × Obj)) (xe : Value → Shared → Prop), Takes (X.tr pn xe) W → PassesOwn (model X.prog X.w) X.A X.env xe → PSs (X.tr pn xe) body (tb W))
    (hsu : ∀ (a : Addr) (oe : Obj) (cls : Value) (d : Option Addr) (pn : List (Addr × Obj)), Zc cls d oe → (∃ vs, oe.data = .fields vs) → PSs (X.suite a ((a, oe) :: pn)) (b₀ :: suite) (ts a cls d)) (hK : X.K = K := by rfl) :
    PS X (.Try body [.ExceptHandler (some (.Name x np)) none (b₀ :: suite) pos'] [] [] pos) (tTryO K c ts Wout tb) := hK ▸ ps_try_only hs hf hc tk hb hsu
theorem h_tryA (h : tb (wAs K c i ts Wout D') D' σ H) : tTryA K c i ts Wout tb D' σ H := h
theorem h_tryO (h : tb (wOnly K c ts Wout D') D' σ H) : tTryO K c ts Wout tb D' σ H := h
end
theorem Post.mono2 {α : Type} {m : Res α} {P P' : α → Prop} {R R' : Err → Prop} (h : Post m P R) (hr : ∀ e, R e → R' e) (hp : ∀ a, P a → P' a) : Post m P' R' := h.mono hp hr
section
variable {K : PySem.W.Frag} {B H : Hp} {Q : VK} {v : V} {d : D} {σ : L2.St} {g : TGs}
theorem h_tupG {n : Nat} {p : Addr} {xs : List V} {N : L2.St → Hp → Prop} (s : SqT K H p xs) (hl : xs.length = n) (h : g xs σ H N) : gTup K n g (.ref p) σ H N := ⟨p, xs, rfl, s, hl, h⟩
theorem h_gcons {t : TG} {u : TGs} {x : V} {xs : List V} {N : L2.St → Hp → Prop} (h : t x σ H fun σ' H' => u xs σ' H' N) : gCons t u (x :: xs) σ H N := ⟨x, xs, rfl, h⟩
theorem h_gnil {N : L2.St → Hp → Prop} (h : N σ H) : gNil [] σ H N := ⟨rfl, h⟩
end

section
variable {K : PySem.W.Frag} {B H : Hp} {Q : VK} {p : Addr} {xs : List V} {d1 d2 d3 d4 d5 : D}
theorem h_lenTl {l : List D} (s : SqT K H p xs) (r : RepL K B xs (l.map enc)) (h : Q (.int l.length) H) : rLenY K [V.ref p] H Q := by
  refine ⟨p, xs, rfl, .inr s, ?_⟩
  rw [show xs.length = l.length from by rw [r.length, List.length_map]]
  exact h
theorem tup4 {x y z u : V} (hl : xs.length = 4) (h0 : atI xs 0 = some x) (h1 : atI xs 1 = some y) (h2 : atI xs 2 = some z) (h3 : atI xs 3 = some u) : xs = [x, y, z, u] := by
  match xs, hl with
  | [a, b, c, d], _ =>
    have e0 : a = x := Option.some.inj h0
    have e1 : b = y := Option.some.inj h1
    have e2 : c = z := Option.some.inj h2
    have e3 : d = u := Option.some.inj h3
    rw [e0, e1, e2, e3]
theorem RepL.open2 (r : RepL K B xs [d1, d2]) : ∃ u1 u2, xs = [u1, u2] ∧ Rep K B u1 d1 ∧ Rep K B u2 d2 := by
  cases r with | cons h1 r => cases r with | cons h2 r => cases r; exact ⟨_, _, rfl, h1, h2⟩
end
structure FunV (K : PySem.W.Frag) (x qual : Str) (st : Stmt) (dv : List Value) (f : Addr) (fd : FuncData) : Prop where
  ex : ∃ (oc : Value) (od : Option Addr) (T : Addr) (o : Obj) (n : Nat) (kV doc pm : Value) (an : Option Addr) (cdv ct : Value) (osl : Array (Option Value)),
    fd = PySem.W.fnOf x qual (defArgs st) (defBody st) (defScope st) (.ref T) kV doc pm an cdv ct ∧ K.lookup f = some ⟨oc, od, .func fd, osl⟩ ∧ PySem.W.codeIn K cdv qual = true ∧ K.lookup T = some o ∧ o.data = .seq dv.toArray n
  kp : PySem.W.keepIn K (.ref f) = true
section
variable {P : Program} {w : World} {K : PySem.W.Frag} {mg : Str → Option Value} {base : Heap} {x qual : Str} {st : Stmt} {dv : List Value} {f : Addr} {fd : FuncData} {ps ks : List Str}
theorem FunV.okX {N : List Str} {k : Nat} {sp : Sp} (F : FunV K x qual st dv f fd) (S : FnScope N ps (defScope st)) (len : ∀ vs H Q E, sp vs H Q E → vs.length = ps.length)
    (hbody : ∀ (cdv : Value) (A : Around) (outer : List Env) (s : Shared) (H : Hp) (vs : List V) (Q : VK) (E : XK), Room k (A.deeper (envOfC qual (defScope st) s.heap.objs.size f cdv)) → sp vs H Q E →
      ∃ t, PSs (cxOf (L2.CX P w) P w K mg base N qual (defScope st) f cdv A outer s H E) (defBody st) t ∧ t { nx := fun _ H' => Q .non H', rt := Q } (start N vs) H) : FnOk P w K mg base (L2.CX P w) (k + 1) f fd ps sp := by
  obtain ⟨oc, od, T, o, n, kV, doc, pm, an, cdv, ct, osl, rfl, lk, hcd, _, _⟩ := F.ex
  exact fn_of lk hcd S len fun A outer s H vs Q E hr hsp => hbody cdv A outer s H vs Q E hr hsp
theorem FunV.ok {N : List Str} {k : Nat} {sp : Sp} (F : FunV K x qual st dv f fd) (S : FnScope N ps (defScope st)) (len : ∀ vs H Q E, sp vs H Q E → vs.length = ps.length)
    (hbody : ∀ (cdv : Value) (A : Around) (outer : List Env) (s : Shared) (H : Hp) (vs : List V) (Q : VK) (E : XK), Room k (A.deeper (envOfC qual (defScope st) s.heap.objs.size f cdv)) → sp vs H Q E →
      ∃ t, PSs (cxOf CX0 P w K mg base N qual (defScope st) f cdv A outer s H E).nox (defBody st) t ∧ t { nx := fun _ H' => Q .non H', rt := Q } (start N vs) H) : FnOk P w K mg base CX0 (k + 1) f fd ps sp := by
  obtain ⟨oc, od, T, o, n, kV, doc, pm, an, cdv, ct, osl, rfl, lk, hcd, _, _⟩ := F.ex
  refine fn_of lk hcd S len fun A outer s H vs Q E hr hsp => ?_
  obtain ⟨t, h, q⟩ := hbody cdv A outer s H vs Q E hr hsp
  exact ⟨t, h.nox, q⟩
theorem FunV.binds (F : FunV K x qual st dv f fd) (n j : Nat) (hn : n + (dv.length - j) = ps.length)
    (h : ∀ (T : Addr) (kV doc pm : Value) (an : Option Addr) (cdv ct : Value) (us : List Value), us.length = n →
      ∃ k, bindArgs (PySem.W.fnOf x qual (defArgs st) (defBody st) (defScope st) (.ref T) kV doc pm an cdv ct) ⟨us, []⟩ = seqItems? (.ref T) >>= k ∧ k (some dv.toArray) = pure (ps.zip (us ++ dv.drop j))) : Binds K fd ps (dv.drop j) := by
  obtain ⟨oc, od, T, o, m, kV, doc, pm, an, cdv, ct, osl, rfl, lk, hcd, lT, oT⟩ := F.ex
  refine fun s us X hlen => ?_
  have l2 : us.length = n := by
    rw [List.length_append, List.length_drop] at hlen
    omega
  obtain ⟨k, e1, e2⟩ := h T kV doc pm an cdv ct us l2
  refine BindsTo.of_looks fun M => ?_
  rw [e1]
  exact looks_items X lT oT (.of_pure e2)
theorem FunV.kb {g : List Value → List Value → List Value} {gV : List V → List V → List V} (F : FunV K x qual st dv f fd)
    (h : ∀ (T : Addr) (kV doc pm : Value) (an : Option Addr) (cdv ct : Value) (us ws : List Value), (g us ws).length = ps.length → ∃ k, bindArgs (PySem.W.fnOf x qual (defArgs st) (defBody st) (defScope st) (.ref T) kV doc pm an cdv ct) ⟨us, ks.zip ws⟩ = seqItems? (.ref T) >>= k ∧ k (some dv.toArray) = pure (ps.zip (g us ws)))
    (r : ∀ {vs : List V} {us : List Value} {zs : List V} {ws : List Value}, Vals vs us → Vals zs ws → Vals (gV vs zs) (g us ws)) : KBinds K fd ps ks g gV := by
  obtain ⟨oc, od, T, o, m, kV, doc, pm, an, cdv, ct, osl, rfl, lk, hcd, lT, oT⟩ := F.ex
  refine ⟨fun s us ws X hl => ?_, r⟩
  obtain ⟨k, e1, e2⟩ := h T kV doc pm an cdv ct us ws hl
  refine BindsTo.of_looks fun M => ?_
  rw [e1]
  exact looks_items X lT oT (.of_pure e2)
end
def CDivZ (_ j : Int) : Prop := j ≠ 0 ∧ j.natAbs.log2 < 9000
instance {i j : Int} : Decidable (CDivZ i j) := inferInstanceAs (Decidable (_ ∧ _))
def isNonD : D → Bool | .non => true | _ => false
def rIsN : V → V → Hp → VK → Prop := fun x y H Q => y = .non ∧ Q (.bl (decide (x = .non))) H
def rNotN : V → V → Hp → VK → Prop := fun x y H Q => y = .non ∧ Q (.bl (!decide (x = .non))) H
theorem op_isNn {X : Cx} : OpR X (compareOp .Is) rIsN := op_isN
theorem op_notNn {X : Cx} : OpR X (compareOp .IsNot) rNotN := op_notN
section
variable {K : PySem.W.Frag} {B H : Hp} {Q : VK} {v : V} {d : D}
theorem Rep.isNon (r : Rep K B v d) : decide (v = .non) = isNonD d := by
  cases r <;> rfl
theorem h_isN (r : Rep K B v d) (h : Q (.bl (isNonD d)) H) : rIsN v .non H Q := ⟨rfl, by rw [r.isNon]; exact h⟩
theorem h_notN (r : Rep K B v d) (h : Q (.bl (!isNonD d)) H) : rNotN v .non H Q := ⟨rfl, by rw [r.isNon]; exact h⟩
end
section
variable {K : PySem.W.Frag} {B B' H H' : Hp} {σ : L2.St} {Q : VK} {x y v : V} {d e : D} {p q : Addr} {xs ys : List V} {te : TE}
def Cmp (K : PySem.W.Frag) (H : Hp) (v : V) (d : D) : Prop := flatD d = true → Dp K H v (pyD d)
theorem Rep.cp (w : Ex B H) (r : Rep K B v d) : Cmp K H v d := r.dp w
theorem SqL.cp {ds : List D} (w : Ex B H) (s : SqL K H p xs) (r : RepL K B xs ds) : Cmp K H (.ref p) (.lst ds) := fun f => .lst s (RepL.dp w r f)
theorem h_eqC (rx : Cmp K H x d) (ry : Cmp K H y e) (o : okEq d e) (h : Q (.bl (eqD d e)) H) : rEqD K x y H Q := ⟨_, _, rx o.1, ry o.2.1, o.2.2.1, o.2.2.2, h⟩
theorem h_neC (rx : Cmp K H x d) (ry : Cmp K H y e) (o : okEq d e) (h : Q (.bl (!eqD d e)) H) : rNeD K x y H Q := ⟨_, _, rx o.1, ry o.2.1, o.2.2.1, o.2.2.2, h⟩
theorem RepL.erase : ∀ {xs : List V} {ds : List D} (k : Nat), RepL K B xs ds → RepL K B (xs.eraseIdx k) (ds.eraseIdx k)
  | _, _, _, .nil => .nil
  | _, _, 0, .cons h t => t
  | _, _, k + 1, .cons h t => .cons h (RepL.erase k t)
theorem map_erase {α : Type} [Enc α] : ∀ (l : List α) (k : Nat), (l.eraseIdx k).map (enc : α → D) = (l.map enc).eraseIdx k
  | [], _ => rfl
  | _ :: _, 0 => rfl
  | x :: xs, k + 1 => congrArg (enc x :: ·) (map_erase xs k)
def popR {α : Type} (l : List α) (i : Int) : Res (α × List α) := if 0 ≤ i ∧ i < (l.length : Int) ∧ l.length ≤ 1000000 then match l[i.toNat]? with | some x => .ok (x, l.eraseIdx i.toNat) | none => .stuck else .stuck
theorem Post.pop {α β : Type} {l : List α} {i : Int} {k : α × List α → Res β} {P : β → Prop} {R : Err → Prop} (h : Post ((popR l i).bind k) P R) : ∃ x, (0 ≤ i ∧ i < (l.length : Int) ∧ l.length ≤ 1000000) ∧ l[i.toNat]? = some x ∧ Post (k (x, l.eraseIdx i.toNat)) P R := by
  unfold popR at h
  by_cases c : 0 ≤ i ∧ i < (l.length : Int) ∧ l.length ≤ 1000000
  · rw [if_pos c] at h
    cases e : l[i.toNat]? with
    | none => rw [e] at h; exact h.elim
    | some x => rw [e] at h; exact ⟨x, c, rfl, h⟩
  · rw [if_neg c] at h; exact h.elim
theorem h_popL {α : Type} [Enc α] {l : List α} {i : Int} {b : α} (w : Ex B H) (m : Mu K B H p (l.map enc)) (hi : 0 ≤ i ∧ i < (l.length : Int) ∧ l.length ≤ 1000000) (hb : l[i.toNat]? = some b)
    (h : ∀ y H', Stp [p] B H B H' → Mu K B H' p ((l.eraseIdx i.toNat).map enc) → Rep K B y (enc b) → Q y H') : rPopAt (.ref p) [.int i] H Q := by
  obtain ⟨hb0, xs, hp, hr⟩ := id m
  have hl : xs.length = l.length := by rw [hr.length, List.length_map]
  obtain ⟨u, hu, ru⟩ := hr.get (i := i.toNat) (d := enc b) (by rw [List.getElem?_map, hb]; rfl)
  have rl : RepL K B (xs.eraseIdx i.toNat) ((l.eraseIdx i.toNat).map enc) := by
    rw [map_erase]
    exact RepL.erase _ hr
  refine ⟨p, xs, i, i.toNat, u, rfl, rfl, hp, by omega, by omega, ?_, hu, ?_⟩
  · unfold seqIndex?
    rw [hl]
    simp [show ¬ i < 0 from by omega, hi.1, hi.2.1]
  · obtain ⟨s, m'⟩ := Stp.mut w m rl
    exact h _ _ s m' ru
end
theorem pg_tupK {X : Cx} {pos : Pos} {es : List Expr} {k : Nat} {t : TGs} {n : Nat} {K : PySem.W.Frag} (hc : X.calm = true) (hK : X.K = K) (h : PGs X es t)
    (hn : (assignEach es X.env).length = n := by rfl) (hst : (assignEach es X.env).findIdx? (·.1) = none := by rfl) : PG X (.Tuple es k pos) (gTup K n t) := hK ▸ pg_tup hc h hn hst
section
variable {K : PySem.W.Frag} {B B' H H' : Hp} {σ : L2.St} {Q : VK} {x y v : V} {d e : D} {p q : Addr} {xs ys : List V} {te : TE}
end
class Dec (α : Type) [Enc α] where
  dec : D → Option α
  ok : ∀ d x, dec d = some x → d = enc x
instance : Dec D := ⟨fun d => some d, fun d x e => Option.some.inj e⟩
instance : Dec Int := ⟨fun d => match d with | .int i => some i | _ => none, fun d x e => by cases d <;> simp at e; rw [e]; rfl⟩
instance : Dec Bool := ⟨fun d => match d with | .bl i => some i | _ => none, fun d x e => by cases d <;> simp at e; rw [e]; rfl⟩
instance : Dec Str := ⟨fun d => match d with | .str i => some i | _ => none, fun d x e => by cases d <;> simp at e; rw [e]; rfl⟩
instance {α : Type} [Enc α] [Dec α] : Dec (Option α) := ⟨fun d => match d with | .non => some none | d => (Dec.dec d).map some, fun d x e => by
  cases d with
  | non => cases Option.some.inj e; rfl
  | _ => all_goals
    obtain ⟨y, e1, e2⟩ := Option.map_eq_some_iff.mp (show Option.map some _ = some x from e)
    rw [← e2]
    show _ = (enc y : D)
    exact Dec.ok _ _ e1⟩
instance {α β : Type} [Enc α] [Enc β] [Dec α] [Dec β] : Dec (Tp2 α β) := ⟨fun d => match d with | .tup [a, b] => (Dec.dec a).bind fun x => (Dec.dec b).bind fun y => some ⟨x, y⟩ | _ => none, fun d x e => by
  split at e
  · obtain ⟨u, e1, e⟩ := Option.bind_eq_some_iff.mp e
    obtain ⟨w, e2, e⟩ := Option.bind_eq_some_iff.mp e
    cases Option.some.inj e
    rw [Dec.ok _ _ e1, Dec.ok _ _ e2]
    rfl
  · cases e⟩
instance {α β γ : Type} [Enc α] [Enc β] [Enc γ] [Dec α] [Dec β] [Dec γ] : Dec (Tp3 α β γ) := ⟨fun d => match d with | .tup [a, b, c] => (Dec.dec a).bind fun x => (Dec.dec b).bind fun y => (Dec.dec c).bind fun z => some ⟨x, y, z⟩ | _ => none, fun d x e => by
  split at e
  · obtain ⟨u, e1, e⟩ := Option.bind_eq_some_iff.mp e
    obtain ⟨w, e2, e⟩ := Option.bind_eq_some_iff.mp e
    obtain ⟨w2, e3, e⟩ := Option.bind_eq_some_iff.mp e
    cases Option.some.inj e
    rw [Dec.ok _ _ e1, Dec.ok _ _ e2, Dec.ok _ _ e3]
    rfl
  · cases e⟩
def decs {α : Type} [Enc α] [Dec α] : List D → Option (List α)
  | [] => some []
  | d :: ds => (Dec.dec d).bind fun x => (decs ds).bind fun xs => some (x :: xs)
theorem decs_ok {α : Type} [Enc α] [Dec α] : ∀ (ds : List D) (l : List α), decs ds = some l → ds = l.map enc
  | [], l, e => by cases Option.some.inj e; rfl
  | d :: ds, l, e => by
    obtain ⟨u, e1, e⟩ := Option.bind_eq_some_iff.mp e
    obtain ⟨w, e2, e⟩ := Option.bind_eq_some_iff.mp e
    cases Option.some.inj e
    rw [Dec.ok _ _ e1, decs_ok _ _ e2]
    rfl
instance {α : Type} [Enc α] [Dec α] : Dec (List α) := ⟨fun d => match d with | .lst ds => decs ds | _ => none, fun d x e => by
  split at e
  · rw [decs_ok _ _ e]; rfl
  · cases e⟩
def asD (α : Type) [Enc α] [Dec α] (d : D) : Res α := match Dec.dec d with | some x => .ok x | none => .stuck
theorem Post.asD {α β : Type} [Enc α] [Dec α] {d : D} {k : α → Res β} {P : β → Prop} {R : Err → Prop} (h : Post ((Y.asD α d).bind k) P R) : ∃ x, d = enc x ∧ Post (k x) P R := by
  unfold Y.asD at h
  cases e : Dec.dec (α := α) d with
  | none => rw [e] at h; exact h.elim
  | some x => rw [e] at h; exact ⟨x, Dec.ok _ _ e, h⟩
def someR {α : Type} (o : Option α) : Res α := match o with | some x => .ok x | none => .stuck
theorem Post.some {α β : Type} {o : Option α} {k : α → Res β} {P : β → Prop} {R : Err → Prop} (h : Post ((someR o).bind k) P R) : ∃ x, o = Option.some x ∧ Post (k x) P R := by
  cases o with
  | none => exact h.elim
  | some x => exact ⟨x, rfl, h⟩
def RetF (K : PySem.W.Frag) (W : List Addr) (B H : Hp) (ds : List D) (Q : VK) : Prop := ∀ p B' H', Stp W B H B' H' → H p = none → Mu K B' H' p ds → Q (.ref p) H'
def RetMF (K : PySem.W.Frag) (q : Addr) (B H : Hp) (ds es : List D) (Q : VK) : Prop := ∀ p B' H', Stp [q] B H B' H' → H p = none → Mu K B' H' p ds → Mu K B' H' q es → Q (.ref p) H'
def popE {α : Type} (l : List α) : Res (α × List α) := match l[l.length - 1]? with | some x => .ok (x, l.dropLast) | none => .stuck
theorem Post.popE {α β : Type} {l : List α} {k : α × List α → Res β} {P : β → Prop} {R : Err → Prop} (h : Post ((Y.popE l).bind k) P R) : ∃ x, l[l.length - 1]? = Option.some x ∧ Post (k (x, l.dropLast)) P R := by
  unfold Y.popE at h
  cases e : l[l.length - 1]? with
  | none => rw [e] at h; exact h.elim
  | some x => rw [e] at h; exact ⟨x, rfl, h⟩
section
variable {K : PySem.W.Frag} {B H : Hp} {Q : VK} {p : Addr} {xs : List V}
theorem RepL.dropLast : ∀ {xs : List V} {ds : List D}, RepL K B xs ds → RepL K B xs.dropLast ds.dropLast
  | _, _, .nil => .nil
  | _, _, .cons _ .nil => .nil
  | _, _, .cons h (.cons h2 t) => .cons h (RepL.dropLast (.cons h2 t))
theorem h_popE {α : Type} [Enc α] {l : List α} {b : α} (w : Ex B H) (m : Mu K B H p (l.map enc)) (hb : l[l.length - 1]? = some b)
    (h : ∀ y H', Stp [p] B H B H' → Mu K B H' p (l.dropLast.map enc) → Rep K B y (enc b) → Q y H') : rPop (.ref p) [] H Q := by
  obtain ⟨hb0, xs, hp, hr⟩ := id m
  have hl : xs.length = l.length := by rw [hr.length, List.length_map]
  obtain ⟨u, hu, ru⟩ := hr.get (i := l.length - 1) (d := enc b) (by rw [List.getElem?_map, hb]; rfl)
  have rl : RepL K B xs.dropLast (l.dropLast.map enc) := by
    rw [List.map_dropLast]
    exact RepL.dropLast hr
  obtain ⟨s, m'⟩ := Stp.mut w m rl
  exact ⟨p, xs, u, rfl, rfl, hp, by rw [hl]; exact hu, h _ _ s m' ru⟩
end
end Y

namespace Y
open PySem PySem.Spec PyProof.Rows
open L2
open Enc (enc)
section
variable {K : PySem.W.Frag} {B B' H H' : Hp} {Q : VK} {p : Addr} {y : V} {i : Int}
end
section
variable {K : PySem.W.Frag} {σ : L2.St} {B H : Hp} {p : Addr} {xs : List V} {tb : TS} {D' : Ends} {g : TG} {α β S : Type} {P : β → Prop} {R : Err → Prop}
end
end Y

set_option maxHeartbeats 4000000
namespace Y
open PySem PySem.Spec PyProof.Rows
open L2
structure Cl where
  c : Value
  nm : Option Nat
  ts : Addr → Value → Option Addr → TS
def Cl.slots (k : Cl) (σ : L2.St) (a : Addr) : L2.St := match k.nm with | none => σ | some i => σ.set i (some (.ref a))
section
variable {X : Cx} {a : Addr} {B : Heap} {sI s1 : Shared} {pins : List (Addr × Obj)} {σ : L2.St} {H : Hp} {cls : Value} {d : Option Addr} {h : Heap}
end
section
variable {X : Cx} {body : List Stmt} {h₀ : ExceptHandler} {hds : List ExceptHandler} {ks : List Cl} {pos : Pos} {tb : WX → TS} {Wout : WX}
end

def rIsET (K : PySem.W.Frag) (D a : Addr) : List V → Hp → VK → Prop := fun xs H Q => ∃ (tp : Addr) (cs : List V) (us : List Value) (b : Bool), xs = [.ref a, .ref tp] ∧ H tp = some (.tup cs) ∧ Paired ClsV cs us ∧ PySem.W.kitAny K (.ref D) us = some b ∧ Q (.bl b) H
section
variable {K : PySem.W.Frag} {σ : L2.St} {B H : Hp} {Q : VK} {D' : Ends} {Wout : WX} {k : Cl} {r : List Cl} {mg : Str → Option Value} {nm : Str}
theorem kitA_nil {t : Value} : PySem.W.kitAny K t [] = some false := rfl
theorem kitA_f {t c : Value} {r : List Value} {b : Bool} (h : PySem.W.kitOne K t c = some false) (hr : PySem.W.kitAny K t r = some b) : PySem.W.kitAny K t (c :: r) = some b := by
  unfold PySem.W.kitAny
  rw [h]
  exact hr
theorem h_clsTup {xs : List V} (w : Ex B H) (hn : xs.length ≤ sizeLine) (h : ∀ p, Stp [] B H B (upd H p (.tup xs)) → Q (.ref p) (upd H p (.tup xs))) : NewT xs H Q := ⟨hn, fun p hp => h p (Stp.newM w hp)⟩
end

def Raw (B H : Hp) (p : Addr) (xs : List V) : Prop := B p = none ∧ H p = some (.lst xs)
section
variable {K : PySem.W.Frag} {B B' H H' : Hp} {W : List Addr} {p q : Addr} {xs : List V} {Q : VK} {d e : D} {v u : V}
theorem Raw.step (m : Raw B H p xs) (s : Stp W B H B' H') (h : p ∉ W) : Raw B' H' p xs := ⟨s.nw p _ rfl m.1 m.2, s.fr p _ h m.2⟩
theorem Raw.ne (m : Raw B H p xs) (h : H q = none) : p ≠ q := ne_of_none m.2 h
theorem Raw.kp {r : Addr} (m : Raw B H q xs) (_ : Ex B B') (k : ∀ q, q ≠ r → B q = none → B' q = none) (n : q ≠ r) : Raw B' H q xs := ⟨k q n m.1, m.2⟩
theorem Raw.sq (m : Raw B H p xs) : SqL K H p xs := SqL.of m.2
theorem Cmp.pair (s : SqL K H p [v, u]) (h : Cmp K H v d) (h' : Cmp K H u e) : Cmp K H (.ref p) (.lst [d, e]) := fun f => by
  have f' : (flatD d && (flatD e && true)) = true := f
  simp only [Bool.and_true, Bool.and_eq_true] at f'
  exact .lst s (.cons (h f'.1) (.cons (h' f'.2) .nil))
end
section
variable {X : Cx} {CX : CXT} {k : Nat} {f : Addr} {fd : FuncData} {ps : List Str} {sp : Sp} {dvs : List V} {ds : List Value} {E : L2.St → XK} {x : Str} {p pos : Pos} {e : Expr} {es : List Expr} {t tl : TA}
def tCallLS (i : Nat) (f : Addr) (sp : Sp) (dvs : List V) (E : L2.St → XK) (t : TA) : TE := fun σ H Q => σ[i]? = some (some (.ref f)) ∧ t σ H fun vs H1 => sp (vs ++ dvs) H1 Q (E σ)
theorem atOf {E : XK} (h : Passes CX X E) : ∀ σ, PassesAt CX X σ ((fun _ : L2.St => E) σ) := fun σ pins H s e s' I c => h pins σ H s e s' I c
theorem pe_callLS (i : Nat) (F : FnOk X.prog X.w X.K X.mg X.base CX k f fd ps sp) (hr : Room k X.A) (hk : PySem.W.keepIn X.K (.ref f) = true) (hb : L2.Binds X.K fd ps ds) (hd : Vals dvs ds) (hx : ∀ σ, PassesAt CX X σ (E σ)) (ha : PA X (e :: es) t)
    (hN : X.N[i]? = some x := by rfl) (hv : Vis X.env.scope x := by first | exact Or.inl rfl | exact Or.inr (Or.inl rfl) | exact Or.inr (Or.inr rfl))
    (hdb : (x == ("__debug__" : Str)) = false := by decide) (hcd : (x == ("__classdict__" : Str)) = false := by decide)
    (he : starEach (e :: es) X.env = (false, eval e X.env) :: starEach es X.env := by rfl) (hpl : (backTo pos (starEach es X.env)).any (·.1) = false := by rfl) : PE X (.Call (.Name x p) (e :: es) [] pos) (tCallLS i f sp dvs E t) := by
  refine ⟨fun pins s σ H Q I h => ?_⟩
  obtain ⟨hs, ht⟩ := h
  refine wpAny_Call_Name_kw (thn ((pe_var (pos := p) hN hv hdb hcd).run pins s σ H (fun v H1 => v = .ref f ∧ H1 = H) I ⟨.ref f, hs, rfl, rfl⟩) fun u s1 ⟨v, H1, I1, r1, q1⟩ => ?_)
  obtain ⟨rfl, rfl⟩ := q1
  cases r1
  refine PySem.W.callWith_K (h₀ := X.base) I.ok.mod.kin hk (thn (ha.run pos pins s1 σ _ _ I1 ht) fun us s2 ⟨vs, H2, I2, r, q⟩ => ⟨I2.kIn, ?_⟩) he hpl
  exact run_fnSD F hr hb hd (hx σ) I2 r q
theorem h_callLS {i : Nat} {σ : L2.St} {H : Hp} {Q : VK} (hs : σ[i]? = some (some (.ref f))) (h : tl σ H fun vs H1 => sp (vs ++ dvs) H1 Q (E σ)) : tCallLS i f sp dvs E tl σ H Q := ⟨hs, h⟩
end
structure KI (K : PySem.W.Frag) (mg : Str → Option Value) (nm : Str) (C : Addr) : Prop extends KC K nm C where
  g : mg nm = some (.ref C)
  ty : PySem.W.typeIn K (.ref C) = some (.type "type")
  is : PySem.W.isClsIn K C = true
  self : PySem.W.subIn K (.ref C) (.ref C) = some true
theorem bt_of {K : PySem.W.Frag} {C : Addr} (a : PySem.W.subIn K (.ref C) (.type "bool") = some false) (b : PySem.W.subIn K (.ref C) (.type "int") = some false) (c : PySem.W.subIn K (.ref C) (.type "str") = some false)
    (d : PySem.W.subIn K (.ref C) (.type "list") = some false) (e : PySem.W.subIn K (.ref C) (.type "tuple") = some false) (f : PySem.W.subIn K (.ref C) (.type "dict") = some false) :
    ∀ t ∈ ["bool", "int", "str", "list", "tuple", "dict"], PySem.W.subIn K (.ref C) (.type t) = some false := by
  intro t ht
  simp only [List.mem_cons, List.not_mem_nil, or_false] at ht
  rcases ht with rfl | rfl | rfl | rfl | rfl | rfl
  · exact a
  · exact b
  · exact c
  · exact d
  · exact e
  · exact f
section
variable {K : PySem.W.Frag} {mg : Str → Option Value} {nm nm' f m : Str} {C C' C2 p dx : Addr} {B H B' H' : Hp} {fs : List (Str × V)} {ds : List (Str × D)} {d : D} {v : V} {Q : VK} {b : Bool} {σ : L2.St} {ta : TE} {tab : List (Str × Bool)}
theorem KC.uniq (k : KC K nm C) (k' : KC K nm C') : C = C' := by
  have := k.a.symm.trans k'.a
  cases this
  rfl
theorem KI.kit (T : KI K mg nm C) (h : PySem.W.subIn K (.ref C2) (.ref C) = some b) : PySem.W.kitOne K (.ref C2) (.ref C) = some b := by
  unfold PySem.W.kitOne
  by_cases e : (Value.ref C2 == Value.ref C) = true
  · rw [if_pos e]
    have e2 : C2 = C := Value.ref.inj (beq_iff_eq.mp e)
    subst e2
    exact T.self.symm.trans h
  · rw [if_neg e]
    have h2 : (PySem.W.clsIn K C).isSome = true := T.is
    show (if ((PySem.W.clsIn K C).isSome && PySem.W.typeIn K (.ref C) == some (.type "type")) = true then PySem.W.subIn K (.ref C2) (.ref C) else none) = some b
    rw [if_pos (by rw [h2, T.ty] <;> rfl)]
    exact h
theorem sub_bt (C : Addr) : ∀ s ∈ ["NoneType", "bool", "int", "str", "list", "tuple", "dict"], PySem.W.subIn K (.type s) (.ref C) = some false := by
  intro s hs
  simp only [List.mem_cons, List.not_mem_nil, or_false] at hs
  rcases hs with rfl | rfl | rfl | rfl | rfl | rfl | rfl <;> rfl
theorem KI.kitB (T : KI K mg nm C) {s : String} (hs : s ∈ ["NoneType", "bool", "int", "str", "list", "tuple", "dict"]) : PySem.W.kitOne K (.type s) (.ref C) = some false := by
  unfold PySem.W.kitOne
  rw [if_neg (by simp)]
  have h2 : (PySem.W.clsIn K C).isSome = true := T.is
  show (if ((PySem.W.clsIn K C).isSome && PySem.W.typeIn K (.ref C) == some (.type "type")) = true then PySem.W.subIn K (.type s) (.ref C) else none) = some false
  rw [if_pos (by rw [h2, T.ty] <;> rfl)]
  exact sub_bt C s hs
def TabOk (K : PySem.W.Frag) (C : Addr) : List (Str × Bool) → Prop
  | [] => True
  | (nm, b) :: r => (∃ C2, KC K nm C2 ∧ PySem.W.subIn K (.ref C2) (.ref C) = some b) ∧ TabOk K C r
theorem TabOk.get : ∀ {tab : List (Str × Bool)}, TabOk K C tab → tab.lookup nm = some b → ∃ C2, KC K nm C2 ∧ PySem.W.subIn K (.ref C2) (.ref C) = some b
  | [], _, e => nomatch e
  | (x, y) :: r, h, e => by
    have e' : (match nm == x with | true => some y | false => r.lookup nm) = some b := e
    by_cases q : (nm == x) = true
    · rw [q] at e'
      cases e'
      rw [beq_iff_eq.mp q]
      exact h.1
    · rw [Bool.eq_false_iff.mpr q] at e'
      exact TabOk.get h.2 e'
theorem RepF.get : ∀ {fs : List (Str × V)} {ds : List (Str × D)}, RepF K B fs ds → ds.lookup f = some d → ∃ v, fs.lookup f = some v ∧ Rep K B v d
  | _, _, .nil, e => nomatch e
  | _, _, @RepF.cons _ _ k v d' vs ds h t, e => by
    have e' : (match f == k with | true => some d' | false => ds.lookup f) = some d := e
    show ∃ u, (match f == k with | true => some v | false => vs.lookup f) = some u ∧ _
    cases q : f == k with
    | true =>
      rw [q] at e'
      cases e'
      exact ⟨v, rfl, h⟩
    | false =>
      rw [q] at e'
      exact RepF.get t e'
theorem RepF.none : ∀ {fs : List (Str × V)} {ds : List (Str × D)}, RepF K B fs ds → ds.lookup f = Option.none → fs.lookup f = Option.none
  | _, _, .nil, _ => rfl
  | _, _, @RepF.cons _ _ k v d' vs ds h t, e => by
    have e' : (match f == k with | true => some d' | false => ds.lookup f) = Option.none := e
    show (match f == k with | true => some v | false => vs.lookup f) = Option.none
    cases q : f == k with
    | true => rw [q] at e'; exact nomatch e'
    | false =>
      rw [q] at e'
      exact RepF.none t e'
theorem Rep.ins (w : Ex B H) (r : Rep K B v (.obj nm ds)) (T : KC K nm C) : ∃ p dx fs, v = .ref p ∧ H p = some (.ins C dx fs) ∧ RepF K B fs ds := by
  cases r with
  | @obj p C' dx _ fs _ h k r =>
    have e := T.uniq k
    subst e
    exact ⟨p, dx, fs, rfl, w _ _ h, r⟩
def Fld (K : PySem.W.Frag) (f : Str) (x : V) (H : Hp) (Q : VK) : Prop := ∃ a C dx fs v, x = .ref a ∧ H a = some (.ins C dx fs) ∧ Cls K C ∧ NoAttr K C f ∧ fs.lookup f = some v ∧ Q v H
theorem h_fldE (h : ta σ H fun x H1 => Fld K f x H1 Q) : tFld K ta f σ H Q := h
theorem h_fld (w : Ex B H) (r : Rep K B v (.obj nm ds)) (T : KC K nm C) (n : NoAttr K C f) (e : ds.lookup f = some d) (h : ∀ u, Rep K B u d → Q u H) : Fld K f v H Q := by
  obtain ⟨p, dx, fs, rfl, hp, rf⟩ := r.ins w T
  obtain ⟨u, hu, ru⟩ := rf.get e
  exact ⟨p, C, dx, fs, u, rfl, hp, T.c, n, hu, h u ru⟩
def LaysOk (K : PySem.W.Frag) (C : Addr) : List Str → Prop
  | [] => True
  | f :: r => NoAttr K C f ∧ LaysOk K C r
def spInit (K : PySem.W.Frag) (ns : List Str) : Sp := fun vs H Q _ => ∃ (C p dx : Addr) (us : List V), vs = .ref p :: us ∧ us.length = ns.length ∧ H p = some (.ins C dx []) ∧ Cls K C ∧ LaysOk K C ns ∧ Q .non (upd H p (.ins C dx (ns.zip us)))
theorem h_made (w : Ex B H) (hp : H p = none) (hx : H dx = none) (ne : dx ≠ p) (T : KC K nm C) (r : RepF K B fs ds) (h : ∀ B' H', Stp [] B H B' H' → Rep K B' (.ref p) (.obj nm ds) → Q (.ref p) H') : Q (.ref p) (upd (upd (upd H dx (.own p)) p (.ins C dx [])) p (.ins C dx fs)) := by
  rw [upd_upd]
  have s1 : Stp [] B H (upd B dx (.own p)) (upd H dx (.own p)) := Stp.new w hx
  have hp' : (upd H dx (.own p)) p = none := by rw [upd_ne ne.symm]; exact hp
  have s2 : Stp [] (upd B dx (.own p)) (upd H dx (.own p)) (upd (upd B dx (.own p)) p (.ins C dx fs)) (upd (upd H dx (.own p)) p (.ins C dx fs)) := Stp.new s1.ok hp'
  exact h _ _ (s1.trans s2) (.obj upd_same T (r.mono (s1.trans s2).ex))
theorem h_make {ns : List Str} {E : XK} {us : List V} (hl : us.length = ns.length) (w : Ex B H) (T : KC K nm C) (lo : LaysOk K C ns) (r : RepF K B (ns.zip us) ds) (h : ∀ p B' H', Stp [] B H B' H' → Rep K B' (.ref p) (.obj nm ds) → Q (.ref p) H') :
    ∀ x dx, H x = none → H dx = none → dx ≠ x → spInit K ns (.ref x :: us) (upd (upd H dx (.own x)) x (.ins C dx [])) (fun v H2 => v = .non ∧ Q (.ref x) H2) E := fun x dx hx hdx ne =>
  ⟨C, x, dx, us, rfl, hl, upd_same, T.c, lo, rfl, h_made w hx hdx ne T r fun B' H' s rr => h x B' H' s rr⟩
end
structure MAlt (P : Program) (wo : World) (K : PySem.W.Frag) (mg : Str → Option Value) (base : Heap) (CX : CXT) (k : Nat) (m : Str) (C : Addr) (sp : Sp) : Prop where
  ex : ∃ (f : Addr) (fd : FuncData) (ps : List Str), Cls K C ∧ Meth K C m f ∧ FnOk P wo K mg base CX k f fd ps sp ∧ L2.Binds K fd ps []
def tMethP (A : Addr → Sp → Prop) (m : Str) (E : L2.St → XK) (ta : TE) (t : TA) : TE := fun σ H Q => ta σ H fun x H1 => ∃ a C dx fs sp, x = .ref a ∧ H1 a = some (.ins C dx fs) ∧ A C sp ∧ fs.lookup m = none ∧ t σ H1 fun vs H2 => sp (x :: vs) H2 Q (E σ)
section
variable {X : Cx} {CX : CXT} {k : Nat} {E : L2.St → XK} {m : Str} {pos apos : Pos} {e o : Expr} {es : List Expr} {ta : TE} {t : TA} {A : Addr → Sp → Prop}
theorem pe_methP {pl : Sem Bool} (he : PE X o ta) (hA : ∀ C sp, A C sp → MAlt X.prog X.w X.K X.mg X.base CX k m C sp) (hr : Room k X.A) (hx : ∀ σ, PassesAt CX X σ (E σ)) (ha : PA X (e :: es) t)
    (hst : starEach (e :: es) X.env = (false, eval e X.env) :: starEach es X.env := by rfl) (hpl : (backTo pos (starEach es X.env)).any (·.1) = false := by rfl)
    (ht : eval (.Call (.Attribute o m apos) (e :: es) [] pos) X.env = (do
      let ov ← eval o X.env
      standAt apos.atName
      let (f, first) ← holding [ov] (getMethod ov m pl)
      callWith pos f first (backTo pos (starEach (e :: es) X.env)) (backToKw pos (keywordEach [] X.env))) := by rfl) :
    PE X (.Call (.Attribute o m apos) (e :: es) [] pos) (tMethP A m E ta t) := by
  refine ⟨fun pins s σ H Q I h => ?_⟩
  refine PySem.W.methodCall_KW (pl := pl) (thn (he.run pins s σ H _ I h) fun u s1 ⟨x, H1, I1, rx, a, C, dx, fs, sp, ex, ea, hAC, l, q⟩ => ?_) ht
  subst ex
  obtain rfl : u = Value.ref a := rx
  obtain ⟨f, fd, ps, c, hm, F, hb⟩ := (hA C sp hAC).ex
  refine getmeth_ok I1 ea c hm l ?_
  refine PySem.W.callWith_K (first := [.ref a]) (h₀ := X.base) I.ok.mod.kin hm.kp (thn (ha.run pos pins s1 σ H1 _ I1 q) fun us s2 ⟨vs, H2, I2, r, q2⟩ => ⟨I2.kIn, ?_⟩) hst hpl
  exact run_fnSD (us := .ref a :: us) (vs := .ref a :: vs) (dvs := []) (ds := []) F hr hb .nil (hx σ) I2 (.cons rfl r) (by rw [List.append_nil]; exact q2)
theorem pe_methP0 {pl : Sem Bool} (he : PE X o ta) (hA : ∀ C sp, A C sp → MAlt X.prog X.w X.K X.mg X.base CX k m C sp) (hr : Room k X.A) (hx : ∀ σ, PassesAt CX X σ (E σ))
    (ht : eval (.Call (.Attribute o m apos) [] [] pos) X.env = (do
      let ov ← eval o X.env
      standAt apos.atName
      let (f, first) ← holding [ov] (getMethod ov m pl)
      callWith pos f first (backTo pos (starEach [] X.env)) (backToKw pos (keywordEach [] X.env))) := by rfl) :
    PE X (.Call (.Attribute o m apos) [] [] pos) (tMethP A m E ta tNil) := by
  refine ⟨fun pins s σ H Q I h => ?_⟩
  refine PySem.W.methodCall_KW (pl := pl) (thn (he.run pins s σ H _ I h) fun u s1 ⟨x, H1, I1, rx, a, C, dx, fs, sp, ex, ea, hAC, l, q⟩ => ?_) ht
  subst ex
  obtain rfl : u = Value.ref a := rx
  obtain ⟨f, fd, ps, c, hm, F, hb⟩ := (hA C sp hAC).ex
  refine getmeth_ok I1 ea c hm l ?_
  exact PySem.W.callWith_K0 (first := [.ref a]) I1.kIn hm.kp (run_fnSD (us := [.ref a]) (vs := [.ref a]) (dvs := []) (ds := []) F hr hb .nil (hx σ) I1 (.cons rfl .nil) (by rw [List.append_nil]; exact q))
end
section
variable {K : PySem.W.Frag} {σ : L2.St} {H : Hp} {Q : VK} {A : Addr → Sp → Prop} {m : Str} {E : L2.St → XK} {ta : TE} {t : TA} {C : Addr} {sp : Sp} {dvs : List V} {E0 : XK}
theorem h_methE (h : ta σ H fun x H1 => ∃ a C dx fs sp, x = .ref a ∧ H1 a = some (.ins C dx fs) ∧ A C sp ∧ fs.lookup m = none ∧ t σ H1 fun vs H2 => sp (x :: vs) H2 Q (E σ)) : tMethP A m E ta t σ H Q := h
theorem h_makeE (h : t σ H fun vs H1 => ∀ x dx, H1 x = none → H1 dx = none → dx ≠ x → sp (.ref x :: (vs ++ dvs)) (upd (upd H1 dx (.own x)) x (.ins C dx [])) (fun v H2 => v = .non ∧ Q (.ref x) H2) E0) : tMake C sp dvs E0 t σ H Q := h
theorem lk0 {α : Type} {f : Str} {d : α} {r : List (Str × α)} : List.lookup f ((f, d) :: r) = some d := by
  show (match f == f with | true => some d | false => r.lookup f) = some d
  rw [beq_self_eq_true]
theorem lkS {α : Type} {f g : Str} {d e : α} {r : List (Str × α)} (h : (f == g) = false) (t : List.lookup f r = some d) : List.lookup f ((g, e) :: r) = some d := by
  show (match f == g with | true => some e | false => r.lookup f) = some d
  rw [h]
  exact t
theorem lkN {α : Type} {f g : Str} {e : α} {r : List (Str × α)} (h : (f == g) = false) (t : List.lookup f r = none) : List.lookup f ((g, e) :: r) = none := by
  show (match f == g with | true => some e | false => r.lookup f) = none
  rw [h]
  exact t
theorem lkE {α : Type} {f : Str} : List.lookup f ([] : List (Str × α)) = none := rfl
theorem putS {f g : Str} {v u : V} {r q : List (Str × V)} (h : ¬ g = f) (e : putF f v r = q) : putF f v ((g, u) :: r) = (g, u) :: q := by
  show (if g = f then (g, v) :: r else (g, u) :: putF f v r) = _
  rw [if_neg h, e]
theorem putE {f : Str} {v : V} : putF f v [] = [(f, v)] := rfl
end
def tMakeB (C : Addr) (sp : Sp) (gV : List V → List V → List V) (E : XK) (t tk : TA) : TE := fun σ H Q => t σ H fun vs H1 => tk σ H1 fun zs H2 =>
  ∀ x dx, H2 x = none → H2 dx = none → dx ≠ x → sp (gV (.ref x :: vs) zs) (upd (upd H2 dx (.own x)) x (.ins C dx [])) (fun v H3 => v = .non ∧ Q (.ref x) H3) E
section
variable {X : Cx} {CX : CXT} {k : Nat} {f C : Addr} {fd : FuncData} {ps ks : List Str} {sp : Sp} {E : XK} {x : Str} {p pos : Pos} {e : Expr} {es : List Expr} {kws : List Keyword} {t tk : TA} {g : List Value → List Value → List Value} {gV : List V → List V → List V}
theorem run_makeB {pins : List (Addr × Obj)} {σ : L2.St} {H : Hp} {s : Shared} {Q : VK} {us ws : List Value} {vs zs : List V} (M : Mk X.K C f) (F : FnOk X.prog X.w X.K X.mg X.base CX k f fd ps sp) (hr : Room (k + 1) X.A) (hb : KBinds X.K fd ps ks g gV)
    (hx : Passes CX X E) (I : Inv X pins σ H s) (r : Vals vs us) (rz : Vals zs ws)
    (h : ∀ x dx, H x = none → H dx = none → dx ≠ x → sp (gV (.ref x :: vs) zs) (upd (upd H dx (.own x)) x (.ins C dx [])) (fun v H2 => v = .non ∧ Q (.ref x) H2) E) :
    wpAny (model X.prog X.w) X.A (call (.ref C) us (ks.zip ws)) (EP X pins σ Q) X.xe s := by
  have hq := h (s.heap.objs.size + 1) s.heap.objs.size (I.hok.fresh (Nat.le_succ _)) (I.hok.fresh (Nat.le_refl _)) (Nat.ne_of_lt (Nat.lt_succ_self _))
  have I2 := Inv.made (C := C) I
  have r1 : Vals (V.ref (s.heap.objs.size + 1) :: vs) (Value.ref (s.heap.objs.size + 1) :: us) := .cons rfl r
  have r2 := hb.rel r1 rz
  have hl : (g (Value.ref (s.heap.objs.size + 1) :: us) ws).length = ps.length := by rw [← r2.length]; exact F.len _ _ _ _ hq
  refine wpAny_call (make_map (f := f) I.kIn M.makes M.init (beq_iff_eq.mp M.fn) (codeAny_mono (F.run _ X.stack _ _ ⟨Value.ref (s.heap.objs.size + 1) :: us, ks.zip ws⟩ (g (Value.ref (s.heap.objs.size + 1) :: us) ws) _ _ E (hr.make C us (ks.zip ws))
    (I2.env0.make C us (ks.zip ws)) (hb.to _ (Value.ref (s.heap.objs.size + 1) :: us) ws I2.kIn hl) r2 hq) fun r s' hq' => ?_))
  cases r with
  | error e => exact hx pins σ _ _ e s' I2 hq'
  | ok fl =>
    cases fl with
    | ret u =>
      obtain ⟨v, H', I3, rv, ev, q3⟩ := I2.after hq'
      subst ev
      exact ⟨rv, ⟨V.ref (s.heap.objs.size + 1), H', I3, rfl, q3⟩⟩
    | next => exact False.elim hq'
    | brk => exact False.elim hq'
    | cont => exact False.elim hq'
theorem pe_makeB (M : Mk X.K C f) (F : FnOk X.prog X.w X.K X.mg X.base CX k f fd ps sp) (hr : Room (k + 1) X.A) (hg : Gl X x) (hm : X.mg x = some (.ref C)) (hb : KBinds X.K fd ps ks g gV) (hx : Passes CX X E)
    (ha : PA X (e :: es) t) (hkw : PK X kws tk) (hall : (backToKw pos (keywordEach kws X.env)).all (·.1.isSome) = true := by rfl) (hks : (backToKw pos (keywordEach kws X.env)).filterMap (·.1) = ks := by rfl)
    (hdb : (x == ("__debug__" : Str)) = false := by decide) (he : starEach (e :: es) X.env = (false, eval e X.env) :: starEach es X.env := by rfl)
    (hpl : ((backTo pos (starEach (e :: es) X.env)).any (·.1) || (backToKw pos (keywordEach kws X.env)).any (·.1.isNone)) = false := by rfl) :
    PE X (.Call (.Name x p) (e :: es) kws pos) (tMakeB C sp gV E t tk) := by
  refine ⟨fun pins s σ H Q I h => ?_⟩
  refine wpAny_Call_Name_kw (ld_glob I hg hm ?_ hdb)
  refine PySem.W.callWith_KW (h₀ := X.base) I.ok.mod.kin M.kp hall (thn (ha.run pos pins s σ H _ I h) fun us s1 ⟨vs, H1, I1, r, q⟩ => ?_) hpl he
  refine thn (hkw.run pos pins s1 σ H1 _ I1 q) fun ws s2 ⟨zs, H2, I2, rz, q2⟩ => ⟨I2.kIn, ?_⟩
  rw [hks]
  exact run_makeB M F hr hb hx I2 r rz q2
theorem h_makeBE {σ : L2.St} {H : Hp} {Q : VK} (h : t σ H fun vs H1 => tk σ H1 fun zs H2 => ∀ x dx, H2 x = none → H2 dx = none → dx ≠ x → sp (gV (.ref x :: vs) zs) (upd (upd H2 dx (.own x)) x (.ins C dx [])) (fun v H3 => v = .non ∧ Q (.ref x) H3) E) : tMakeB C sp gV E t tk σ H Q := h
end
section
variable {K : PySem.W.Frag} {B H : Hp} {σ : L2.St} {Q : VK} {tk tv : TE} {v : V} {d : D} {x : Str}
end
def tClsF (C : Addr) (sp : Sp) (dvs : List V) (E : XK) (ta : TE) (t : TA) : TE := fun σ H Q => ta σ H fun x H1 => x = .ref C ∧ t σ H1 fun vs H2 => sp (vs ++ dvs) H2 Q E
section
variable {X : Cx} {CX : CXT} {k : Nat} {E : XK} {m : Str} {pos apos : Pos} {e o : Expr} {es : List Expr} {ta : TE} {t : TA} {C g : Addr} {mc : Value} {fd : FuncData} {ps : List Str} {sp : Sp} {dvs : List V} {ds : List Value}
theorem pe_clsf {pl : Sem Bool} (he : PE X o ta) (r : ClX.CRead X.K C mc) (c : ClX.CVal X.K C mc m (.ref g) (.ref g)) (F : FnOk X.prog X.w X.K X.mg X.base CX k g fd ps sp) (hk : PySem.W.keepIn X.K (.ref g) = true) (hr : Room k X.A)
    (hb : L2.Binds X.K fd ps ds) (hd : Vals dvs ds) (hx : Passes CX X E) (ha : PA X (e :: es) t)
    (hst : starEach (e :: es) X.env = (false, eval e X.env) :: starEach es X.env := by rfl) (hpl : (backTo pos (starEach es X.env)).any (·.1) = false := by rfl)
    (ht : eval (.Call (.Attribute o m apos) (e :: es) [] pos) X.env = (do
      let ov ← eval o X.env
      standAt apos.atName
      let (f, first) ← holding [ov] (getMethod ov m pl)
      callWith pos f first (backTo pos (starEach (e :: es) X.env)) (backToKw pos (keywordEach [] X.env))) := by rfl) :
    PE X (.Call (.Attribute o m apos) (e :: es) [] pos) (tClsF C sp dvs E ta t) := by
  refine ⟨fun pins s σ H Q I h => ?_⟩
  refine PySem.W.methodCall_KW (pl := pl) (thn (he.run pins s σ H _ I h) fun u s1 ⟨x, H1, I1, rx, ex, q⟩ => ?_) ht
  subst ex
  obtain rfl : u = Value.ref C := rx
  refine PySem.W.method_cls I1.kIn r.ga (ClX.getcval_ok I1 r c fun s2 I2 => ?_)
  refine PySem.W.callWith_K (first := []) (h₀ := X.base) I2.ok.mod.kin hk (thn (ha.run pos pins s2 σ H1 _ I2 q) fun us s3 ⟨vs, H2, I3, rv, q2⟩ => ⟨I3.kIn, ?_⟩) hst hpl
  exact run_fn F hr hb hd hx I3 rv q2
end
def minI (i j : Int) : Int := if j < i then j else i
def rMinY : List V → Hp → VK → Prop := fun xs H Q => ∃ i j, xs = [.int i, .int j] ∧ Q (.int (minI i j)) H
theorem cr_minY {X : Cx} (hc : X.calm = true) : CallR X (.builtin "min") rMinY := call_min2 hc
theorem h_min {i j : Int} {H : Hp} {Q : VK} (h : Q (.int (minI i j)) H) : rMinY [.int i, .int j] H Q := ⟨i, j, rfl, h⟩
section
variable {K : PySem.W.Frag} {B H : Hp} {σ : L2.St} {Q : VK} {p : Addr} {xs : List V} {g : TG} {tt : TT} {te : TE} {α β S R' : Type} {P : β → Prop} {R : Err → Prop}
def LcU (K : PySem.W.Frag) (v : V) (g : TG) (tt : TT) (te : TE) (vs : List Nat) (σ : L2.St) (H : Hp) (Q : VK) : Prop := tLc (iTup K (tC v)) g tt te vs σ H Q
theorem h_lcUE {vs : List Nat} {tl : TE} (h : tl σ H fun x H1 => LcU K x g tt te vs σ H1 Q) : tLc (iTup K tl) g tt te vs σ H Q := h
theorem h_lcU [Enc α] {l : List α} {s0 : S} {f : α → S → Res (Option R' × S)} {k : List R' × S → Res β} {vs : List Nat} (hP : Post ((compR l s0 f).bind k) P R) (hs : SqT K H p xs) (hr : RepL K B xs (l.map enc))
    (J : Addr → List R' → S → Hp → Prop) (h0 : ∀ Dl, H Dl = none → J Dl [] s0 (upd H Dl (.lst []))) (hl : ∀ Dl acc s H', J Dl acc s H' → SqT K H' p xs)
    (hb : ∀ (Dl : Addr) (N : Hp → Prop) (T : Option R' × S → Prop) (x : α) v acc s H', J Dl acc s H' → Rep K B v (enc x) → acc.length < sizeLine → (∀ b s' H2, J Dl (acc ++ [b]) s' H2 → T (some b, s') → N H2) → (∀ s' H2, J Dl acc s' H2 → T (none, s') → N H2) → Post (f x s) T R →
      g v (wipe σ vs) H' (LcT σ vs tt te Dl N))
    (hd : ∀ Dl acc s H', J Dl acc s H' → Post (k (acc, s)) P R → Q (.ref Dl) H') : LcU K (.ref p) g tt te vs σ H Q := by
  refine ⟨p, rfl, ⟨xs, hs⟩, fun Dl hD => ?_⟩
  unfold compR at hP
  have hz : l.length ≤ 1000000 := by
    by_cases c : l.length ≤ 1000000
    · exact c
    · unfold guardR at hP; rw [if_neg c] at hP; exact hP.elim
  unfold guardR at hP
  rw [if_pos hz] at hP
  refine lc_tup (K := K) (a := p) (xs := xs) (fun i H' => ∃ acc s, J Dl acc s H' ∧ acc.length ≤ i ∧ Post ((compL (l.drop i) s f).bind fun q => k (acc ++ q.1, q.2)) P R) ⟨[], s0, h0 Dl hD, Nat.le_refl _, hP⟩ (fun i H' _ ⟨acc, s, j, _⟩ => hl Dl acc s H' j) ?_ ?_
  · rintro i y H' hi ⟨acc, s, j, hn, q⟩
    have h1 := (List.getElem?_eq_some_iff.mp hi).1
    rw [hr.length, List.length_map] at h1
    obtain ⟨x, hx⟩ : ∃ x, l[i]? = some x := ⟨l[i], List.getElem?_eq_getElem h1⟩
    obtain ⟨u, hu, ru⟩ := hr.get (i := i) (d := enc x) (by rw [List.getElem?_map, hx]; rfl)
    rw [hi] at hu; cases hu
    exact hb Dl _ _ x y acc s H' j ru (Nat.lt_of_le_of_lt (Nat.le_trans hn (Nat.le_trans (Nat.le_of_lt h1) hz)) (by decide)) (fun b s' H2 j2 t2 => ⟨acc ++ [b], s', j2, by rw [List.length_append]; exact Nat.succ_le_succ hn, t2⟩) (fun s' H2 j2 t2 => ⟨acc, s', j2, Nat.le_succ_of_le hn, t2⟩) (q.compS hx)
  · rintro H' ⟨acc, s, j, _, q⟩
    rw [hr.length, List.length_map, List.drop_eq_nil_of_le (Nat.le_refl _)] at q
    have q2 : Post (k (acc ++ [], s)) P R := q
    rw [List.append_nil] at q2
    exact hd Dl acc s H' j q2
end
section
variable {X : Cx} {CX : CXT} {k : Nat} {E : L2.St → XK} {m : Str} {ks : List Str} {pos apos : Pos} {o : Expr} {kws : List Keyword} {ta : TE} {tk : TA} {A : Addr → Sp → Prop} {gV : List V → List V → List V} {f : Addr} {fd : FuncData} {ps : List Str} {sp : Sp} {g : List Value → List Value → List Value}
end
section
variable {K : PySem.W.Frag} {B H : Hp} {Q : VK} {p q : Addr} {lo hi : Option Int} {l l2 : List D}
theorem h_slA (w : Ex B H) (r : Rep K B (.ref p) (.tup (l.map Enc.enc))) (h : ∀ u B' H', Stp [] B H B' H' → Rep K B' u (.tup ((cutL l lo hi).map Enc.enc)) → Q u H') : rSlA K (.ref p) lo hi H Q := by
  obtain ⟨p', xs, e, s, rr⟩ := r.st w
  cases e
  refine ⟨p, xs, rfl, s, fun c => ?_, fun _ p2 hp2 => ?_⟩
  · have e : cutL l lo hi = l := by
      have hl : xs.length = l.length := by rw [rr.length, List.length_map]
      rw [hl] at c
      unfold cutL
      rw [c.1, c.2]
      simp
    refine h _ _ _ (Stp.refl w) ?_
    rw [e]
    exact r
  · exact h _ _ _ (Stp.new w hp2) (.tup (SqT.of upd_same) ((rr.cut lo hi).mono (Ex.new (w.none hp2))))
end
end Y

namespace MxD
open PySem
section
variable {prog : Program} {w : World} {A : Around} {R : Result → Shared → Prop} {I : Addr} {fp wr : List Addr} {n : Nat} {P : Nat → Value → Prop} {St : Nat → Heap → Prop} {kw : List (Str × Value)}
theorem nm : (toString "max" ++ toString ".loop" : String) = "max.loop" := by decide
theorem loop (W : Walks prog w A.in1 I fp wr n P St) (bt : Nat → Nat → Bool) (hcmp : CmpOf prog w A.in1 .Gt P bt) (S : Addr) (off : S ∉ fp) (k : Nat) : ∀ (j : Nat) (s : Shared) (best : Value) (c : Nat), n = j + 1 + k → St (j + 1) s.heap → P (argBest bt j) best →
    s.heap.get? S = some { cls := .type "list", dict := none, data := .seq #[best, best] c, slots := #[] } →
    (∀ v h' tk, P (argBest bt (n - 1)) v → (∀ b o, b ∉ wr → b ≠ S → s.heap.get? b = some o → h'.get? b = some o) → R (.ok (.ret v)) { s with heap := h', toks := tk }) → codeAny (model prog w) A (.builtin "max.loop" ⟨[.ref I, .none, .ref S], kw⟩) R s := by
  have offw : S ∉ wr := fun h => off (W.sub _ h)
  induction k with
  | zero =>
    intro j s best c en st pb hS fin
    refine codeAny_builtin F.entry_max_loop ?_
    rw [Around.under_plainId F.plain_max_loop _]
    show wpAny (model prog w) A.in1 (seqItems? (.ref S) >>= _) _ _ s
    refine wpAny_bind (wpAny_seqItems hS rfl ?_)
    show wpAny (model prog w) A.in1 (tryCatch (pyNext (.ref I)) _ >>= _) _ _ s
    refine wpAny_bind (wpAny_tryCatch (W.done s _ _ (en ▸ st) fun h' tk kept => ?_))
    show wpAny (model prog w) A.in1 (updateSeq S (fun _ => #[]) >>= _) _ _ _
    refine wpAny_bind (wpAny_updateSeq (kept S _ offw hS) rfl (wpAny_bind (wpAny_letGo (wpAny_pure ?_))))
    exact fin best _ tk (by rw [en]; exact pb) fun b o h1 h2 e => (Heap.get?_update_other _ _ h2.symm).trans (kept b o h1 e)
  | succ k ih =>
    intro j s best c en st pb hS fin
    refine codeAny_builtin F.entry_max_loop ?_
    rw [Around.under_plainId F.plain_max_loop _]
    show wpAny (model prog w) A.in1 (seqItems? (.ref S) >>= _) _ _ s
    refine wpAny_bind (wpAny_seqItems hS rfl ?_)
    show wpAny (model prog w) A.in1 (tryCatch (pyNext (.ref I)) _ >>= _) _ _ s
    refine wpAny_bind (wpAny_tryCatch (W.item (j + 1) s _ _ (by omega) st fun v h' tk pv st' kept => ?_))
    have hS' := kept S _ offw hS
    show wpAny (model prog w) A.in1 (tryCatch (holding [v, v] (richCompare .Gt v best >>= _)) _ >>= _) _ _ _
    refine wpAny_bind (wpAny_tryCatch (wpAny_holding (wpAny_bind (hcmp (j + 1) (argBest bt j) v best _ _ _ pv pb ?_))))
    refine wpAny_bind (wpAny_holding (wpAny_truthy_bool (wpAny_bind (wpAny_letGo (wpAny_pure ?_)))))
    by_cases hb : bt (j + 1) (argBest bt j) = true
    · rw [hb]
      simp only [if_true]
      refine wpAny_bind (wpAny_updateSeq hS' rfl (wpAny_bind (wpAny_letGo ?_)))
      rw [nm]
      refine wpAny_pure ⟨plainId_quiet F.plain_max_loop _, ih (j + 1) _ v _ (by omega) (W.frame _ _ _ st' fun b hf o e => (Heap.get?_update_other _ _ (fun q : S = b => off (by rw [q]; exact hf))).trans e) (by simp only [argBest, hb, if_true]; exact pv) (Heap.get?_update_self _ hS' rfl) fun v2 h2 tk2 p2 k2 => ?_⟩
      exact fin v2 h2 tk2 p2 fun b o h1 hn e => k2 b o h1 hn ((Heap.get?_update_other _ _ hn.symm).trans (kept b o h1 e))
    · have hb := Bool.eq_false_iff.mpr hb
      rw [hb]
      simp only [Bool.false_eq_true, if_false]
      refine wpAny_bind (wpAny_letGo ?_)
      rw [nm]
      refine wpAny_pure ⟨plainId_quiet F.plain_max_loop _, ih (j + 1) _ best c (by omega) st' (by simp only [argBest, hb, Bool.false_eq_true, if_false]; exact pb) hS' fun v2 h2 tk2 p2 k2 => ?_⟩
      exact fin v2 h2 tk2 p2 fun b o h1 hn e => k2 b o h1 hn (kept b o h1 e)
theorem first (W : Walks prog w A.in1 I fp wr n P St) (bt : Nat → Nat → Bool) (hcmp : CmpOf prog w A.in1 .Gt P bt) (S : Addr) (off : S ∉ fp) (hn : 0 < n) {s : Shared} {c : Nat} (st : St 0 s.heap)
    (hS : s.heap.get? S = some { cls := .type "list", dict := none, data := .seq #[] c, slots := #[] })
    (fin : ∀ v h' tk, P (argBest bt (n - 1)) v → (∀ b o, b ∉ wr → b ≠ S → s.heap.get? b = some o → h'.get? b = some o) → R (.ok (.ret v)) { s with heap := h', toks := tk }) : codeAny (model prog w) A (.builtin "max.loop" ⟨[.ref I, .none, .ref S], kw⟩) R s := by
  have offw : S ∉ wr := fun h => off (W.sub _ h)
  refine codeAny_builtin F.entry_max_loop ?_
  rw [Around.under_plainId F.plain_max_loop _]
  show wpAny (model prog w) A.in1 (seqItems? (.ref S) >>= _) _ _ s
  refine wpAny_bind (wpAny_seqItems hS rfl ?_)
  show wpAny (model prog w) A.in1 (tryCatch (pyNext (.ref I)) _ >>= _) _ _ s
  refine wpAny_bind (wpAny_tryCatch (W.item 0 s _ _ hn st fun v h' tk pv st' kept => ?_))
  have hS' := kept S _ offw hS
  show wpAny (model prog w) A.in1 (updateSeq S (fun _ => #[v, v]) >>= _) _ _ _
  refine wpAny_bind (wpAny_updateSeq hS' rfl ?_)
  rw [nm]
  refine wpAny_pure ⟨plainId_quiet F.plain_max_loop _, loop W bt hcmp S off (n - 1) 0 _ v _ (by omega) (W.frame _ _ _ st' fun b hf o e => (Heap.get?_update_other _ _ (fun q : S = b => off (by rw [q]; exact hf))).trans e) pv (Heap.get?_update_self _ hS' rfl) fun v2 h2 tk2 p2 k2 => ?_⟩
  exact fin v2 h2 tk2 p2 fun b o h1 hn e => k2 b o h1 hn ((Heap.get?_update_other _ _ hn.symm).trans (kept b o h1 e))
end
end MxD
namespace Y
open PySem PySem.Spec PyProof.Rows
open L2
def maxL (d : Int) : List Int → Int
  | [] => d
  | n :: r => r.foldl (fun a b => if a < b then b else a) n
theorem foldmax : ∀ (r : List Int) (n : Int), (r.foldl (fun a b => if a < b then b else a) n = n ∨ r.foldl (fun a b => if a < b then b else a) n ∈ r) ∧ n ≤ r.foldl (fun a b => if a < b then b else a) n ∧ ∀ a ∈ r, a ≤ r.foldl (fun a b => if a < b then b else a) n
  | [], n => ⟨.inl rfl, Int.le_refl _, fun _ m => nomatch m⟩
  | x :: r, n => by
    obtain ⟨h1, h2, h3⟩ := foldmax r (if n < x then x else n)
    simp only [List.foldl_cons]
    have hx : n ≤ (if n < x then x else n) ∧ x ≤ (if n < x then x else n) := by split <;> omega
    refine ⟨?_, Int.le_trans hx.1 h2, fun a m => ?_⟩
    · rcases h1 with e | m
      · rw [e]
        split
        · exact .inr List.mem_cons_self
        · exact .inl rfl
      · exact .inr (List.mem_cons_of_mem _ m)
    · rcases List.mem_cons.mp m with rfl | m
      · exact Int.le_trans hx.2 h2
      · exact h3 a m
def rAnd255 : V → V → Hp → VK → Prop := fun x y H Q => ∃ (i : Int) (k : Nat), x = .int i ∧ y = .int (2 ^ k - 1) ∧ Q (.int (i % 2 ^ k)) H
theorem op_and255 {X : Cx} : OpR X (binaryOp .BitAnd) rAnd255 := op_andM
theorem h_and255 {H : Hp} {Q : VK} {i : Int} (h : Q (.int (i % 256)) H) : rAnd255 (.int i) (.int 255) H Q := ⟨i, 8, rfl, rfl, h⟩
section
variable {K : PySem.W.Frag} {B H : Hp} {σ : L2.St} {Q : VK} {p p2 : Addr} {xs ys : List V} {g : TG} {tt : TT} {te : TE} {α α' β S R' : Type} {P : β → Prop} {R : Err → Prop}
end
section
variable {K : PySem.W.Frag} {B H : Hp} {Q : VK} {p : Addr} {ds : List D}
end
theorem ExcT.toExcT {K : PySem.W.Frag} {mg : Str → Option Value} {nm : Str} {C : Addr} (T : ExcT K mg nm C) : ExcT K mg nm C := T
end Y

namespace Y
open PySem PySem.Spec PyProof.Rows
open L2
open Enc (enc)
theorem hu65_of {A : Around} {k : Nat} (hr : Room k A) : A.units + 65 < cLine := by have := hr.un; omega
def inD (x : D) (l : List D) : Bool := (pyDs l).any fun z => PyData.eqv z (pyD x)
section
variable {K : PySem.W.Frag} {B H : Hp} {Q : VK} {x y : V} {d : D} {es : List D} {i j : Int}
end
section
variable {K : PySem.W.Frag} {B H : Hp} {σ : L2.St} {Q : VK} {p p2 : Addr} {xs ys : List V} {g : TG} {tt : TT} {te : TE} {α α' β S R' : Type} {P : β → Prop} {R : Err → Prop}
end
section
variable {K : PySem.W.Frag} {σ : L2.St} {H : Hp} {Q : VK} {g : TG} {tt : TT} {te : TE} {β S R' : Type} {P : β → Prop} {R : Err → Prop}
end
abbrev Bx3 := Tp3 Int (List Int) Int
abbrev Ix3 := Tp3 Int Int (List Int)
section
variable {K : PySem.W.Frag} {B B' B0 H H' H0 : Hp} {Q : VK} {xs ys : List V} {ds : List D} {p q : Addr} {v y : V} {W : List Addr}
def BLst (K : PySem.W.Frag) (B : Hp) (p : Addr) (ds : List D) : Prop := ∃ ws, B p = some (.lst ws) ∧ RepL K B ws ds
theorem BLst.mono (h : BLst K B p ds) (e : Ex B B') : BLst K B' p ds := by
  obtain ⟨ws, h1, h2⟩ := h
  exact ⟨ws, e _ _ h1, h2.mono e⟩
theorem BLst.rep (h : BLst K B p ds) : Rep K B (.ref p) (.lst ds) := by
  obtain ⟨ws, h1, h2⟩ := h
  exact .lst (SqL.of h1) h2
def LB (K : PySem.W.Frag) (B H : Hp) (v : V) : Option Bx3 → Prop
  | none => v = .non
  | some x => ∃ t p, v = .ref t ∧ B t = some (.tup [.int x.a, .ref p, .int x.c]) ∧ BLst K B p (x.b.map enc) ∧ H p = none
theorem LB.rep {r : Option Bx3} (h : LB K B H v r) : Rep K B v (enc r) := by
  cases r with
  | none => rw [show v = .non from h]; exact .non
  | some x =>
    obtain ⟨t, p, rfl, ht, hp, _⟩ := h
    exact .tup (SqT.of ht) (.cons (.int _) (.cons hp.rep (.cons (.int _) .nil)))
theorem LB.mono {r : Option Bx3} (h : LB K B H v r) (e : Ex B B') : LB K B' H v r := by
  cases r with
  | none => exact h
  | some x =>
    obtain ⟨t, p, rfl, ht, hp, hn⟩ := h
    exact ⟨t, p, rfl, e _ _ ht, hp.mono e, hn⟩
def LX (K : PySem.W.Frag) (B H : Hp) (q : Addr) (v : V) (x : Ix3) : Prop := ∃ t p, v = .ref t ∧ B t = some (.tup [.int x.a, .int x.b, .ref p]) ∧ BLst K B p (x.c.map enc) ∧ H p = none ∧ p ≠ q
inductive LXs (K : PySem.W.Frag) (B H : Hp) (q : Addr) : List V → List Ix3 → Prop where
  | nil : LXs K B H q [] []
  | cons {v : V} {x : Ix3} {vs : List V} {l : List Ix3} (h : LX K B H q v x) (t : LXs K B H q vs l) : LXs K B H q (v :: vs) (x :: l)
theorem LX.rep {x : Ix3} (h : LX K B H q v x) : Rep K B v (enc x) := by
  obtain ⟨t, p, rfl, ht, hp, _⟩ := h
  exact .tup (SqT.of ht) (.cons (.int _) (.cons (.int _) (.cons hp.rep .nil)))
theorem LX.mono {x : Ix3} (h : LX K B H q v x) (e : Ex B B') : LX K B' H q v x := by
  obtain ⟨t, p, rfl, ht, hp, hn⟩ := h
  exact ⟨t, p, rfl, e _ _ ht, hp.mono e, hn⟩
theorem LXs.rep : ∀ {vs : List V} {l : List Ix3}, LXs K B H q vs l → RepL K B vs (l.map enc)
  | _, _, .nil => .nil
  | _, _, .cons h t => .cons h.rep t.rep
theorem LXs.mono (e : Ex B B') : ∀ {vs : List V} {l : List Ix3}, LXs K B H q vs l → LXs K B' H q vs l
  | _, _, .nil => .nil
  | _, _, .cons h t => .cons (h.mono e) (LXs.mono e t)
theorem LXs.snoc {x : Ix3} (h : LX K B H q v x) : ∀ {vs : List V} {l : List Ix3}, LXs K B H q vs l → LXs K B H q (vs ++ [v]) (l ++ [x])
  | _, _, .nil => .cons h .nil
  | _, _, .cons g t => .cons g (LXs.snoc h t)
def FaX (K : PySem.W.Frag) (B H H' : Hp) (q : Addr) (l : List Ix3) : Prop := B q = none ∧ ∃ xs, H' q = some (.lst xs) ∧ LXs K B H q xs l
theorem FaX.nil (w : Ex B H) (h : H q = none) : FaX K B H0 (upd H q (.lst [])) q [] := ⟨w.none h, [], upd_same, .nil⟩
theorem FaX.step {l : List Ix3} (f : FaX K B H0 H q l) (s : Stp W B H B' H') (h : q ∉ W) : FaX K B' H0 H' q l := by
  obtain ⟨hb, xs, hq, r⟩ := f
  exact ⟨s.nw _ _ rfl hb hq, xs, s.fr _ _ h hq, r.mono s.ex⟩
theorem Stp.back (a : Stp W B H B' H') : Stp W B H B H' := ⟨Ex.refl B, a.ex.trans a.ok, a.fr, a.al, fun _ _ _ h _ => h⟩
theorem Stp.wr {o : HO} (a : Stp W B H B H') (h0 : H p = none) (w : Ex B H) (h : ∃ u, H' p = some u) : Stp W B H B (upd H' p o) := a.own h0 (w.none h0) h
def RvE (H0 H : Hp) (q : Addr) (M : Nat) (v : V) : Prop := ∃ t a b p zs, v = .ref t ∧ H t = some (.tup [.int a, .int b, .ref p]) ∧ H p = some (.lst ((zs : List Int).map V.int)) ∧ zs.length ≤ M ∧ H0 p = none ∧ p ≠ q
theorem ints_of : ∀ {vs : List V} {zs : List Int}, RepL K B vs (zs.map enc) → vs = zs.map V.int
  | _, [], .nil => rfl
  | _, z :: zs, .cons h t => by
    cases h
    rw [ints_of t]
    rfl
theorem LXs.rv (w : Ex B H) {M : Nat} : ∀ {vs : List V} {l : List Ix3}, LXs K B H0 q vs l → (∀ x ∈ l, x.c.length ≤ M) → ∀ v ∈ vs, RvE H0 H q M v
  | _, _, .nil, _ => fun _ m => nomatch m
  | _, x :: l, .cons h t, hM => fun v m => by
    rcases List.mem_cons.mp m with rfl | m
    · obtain ⟨t, p, rfl, ht, ⟨ws, e1, e2⟩, hn, ne⟩ := h
      rw [ints_of e2] at e1
      exact ⟨t, x.a, x.b, p, x.c, rfl, w _ _ ht, w _ _ e1, hM x List.mem_cons_self, hn, ne⟩
    · exact LXs.rv w t (fun y m => hM y (List.mem_cons_of_mem _ m)) v m
def Rav (B H H' : Hp) (q : Addr) (xs : List V) (M : Nat) : Prop := Stp [] B H B H' ∧ H' q = some (.lst xs) ∧ ∀ v ∈ xs, RvE H H' q M v
theorem Rav.wr {M : Nat} {t p : Addr} {a b : Int} {zs : List Int} (w : Ex B H) (r : Rav B H H' q xs M) (hp : H' p = some (.lst (zs.map V.int))) (hz : zs.length ≤ M) (h0 : H p = none) (ne : p ≠ q) : Rav B H (upd H' p (.lst ((zs ++ [0]).map V.int))) q xs (M + 1) := by
  obtain ⟨s, hq, hv⟩ := r
  refine ⟨s.wr h0 w ⟨_, hp⟩, by rw [upd_ne ne.symm]; exact hq, fun v m => ?_⟩
  obtain ⟨t, a, b, p2, z2, rfl, ht, hp2, hz2, h2, n2⟩ := hv v m
  have tp : t ≠ p := fun e => by rw [e, hp] at ht; exact nomatch ht
  by_cases e : p2 = p
  · subst e
    exact ⟨t, a, b, p2, zs ++ [0], rfl, by rw [upd_ne tp]; exact ht, upd_same, by rw [List.length_append]; exact Nat.succ_le_succ hz, h2, n2⟩
  · exact ⟨t, a, b, p2, z2, rfl, by rw [upd_ne tp]; exact ht, by rw [upd_ne e]; exact hp2, Nat.le_succ_of_le hz2, h2, n2⟩
theorem h_bmR {r : V → List V → Hp → VK → Prop} {t : TA} {σ : L2.St} (h : H p = some (.lst xs)) (g : t σ H fun ys H2 => r (.ref p) ys H2 Q) : Bm K "list" r t σ (.ref p) H Q := ⟨.inl ⟨rfl, _, .inl (.inl h)⟩, g⟩
theorem h_bmR0 {r : V → List V → Hp → VK → Prop} {σ : L2.St} (h : H p = some (.lst xs)) (g : r (.ref p) [] H Q) : Bm0 K "list" r σ (.ref p) H Q := ⟨.inl ⟨rfl, _, .inl (.inl h)⟩, g⟩
theorem h_appR (h : H p = some (.lst xs)) (hz : xs.length < 1000000) (g : Q .non (upd H p (.lst (xs ++ [y])))) : rAppend (.ref p) [y] H Q := ⟨p, xs, y, rfl, rfl, h, Nat.lt_of_lt_of_le hz (by decide), g⟩
theorem h_revR (h : H p = some (.lst xs)) (g : Q .non (upd H p (.lst xs.reverse))) : rReverse (.ref p) [] H Q := ⟨p, xs, rfl, rfl, h, g⟩
theorem h_revRv (h : H p = some (.lst xs)) (s : Stp [] B H0 B H) (w : Ex B H0) (h0 : H0 p = none) (g : ∀ H', Stp [] B H0 B H' → H' p = some (.lst xs.reverse) → Q .non H') : rReverse (.ref p) [] H Q :=
  h_revR h (g _ (s.wr h0 w ⟨_, h⟩) upd_same)
theorem h_appRv (h : H p = some (.lst xs)) (hz : xs.length < 1000000) (s : Stp [] B H0 B H) (w : Ex B H0) (h0 : H0 p = none) (g : ∀ H', Stp [] B H0 B H' → H' p = some (.lst (xs ++ [y])) → Q .non H') : rAppend (.ref p) [y] H Q :=
  h_appR h hz (g _ (s.wr h0 w ⟨_, h⟩) upd_same)
theorem Rav.start {B1 H1 : Hp} {l : List Ix3} (s : Stp [] B H B1 H1) (fx : FaX K B1 H H1 q l) (gd : (l.all fun x => decide (x.c.length + l.length < 999999)) = true) : ∃ xs M, Rav B H H1 q xs M ∧ xs.length = l.length ∧ M + l.length < 1000000 := by
  obtain ⟨hb, xs, hq, r⟩ := fx
  have hl : xs.length = l.length := by rw [r.rep.length, List.length_map]
  have hg : ∀ x ∈ l, x.c.length + l.length < 999999 := fun x m => of_decide_eq_true (List.all_eq_true.mp gd x m)
  refine ⟨xs, 999999 - l.length, ⟨s.back, hq, r.rv s.ok fun x m => by have := hg x m; omega⟩, hl, ?_⟩
  cases l with
  | nil => decide
  | cons x l =>
    have := hg x List.mem_cons_self
    omega
end
structure Tp6 (α β γ δ ε ζ : Type) where
  a : α
  b : β
  c : γ
  d : δ
  e : ε
  f : ζ
instance {α β γ δ ε ζ : Type} [Enc α] [Enc β] [Enc γ] [Enc δ] [Enc ε] [Enc ζ] : Enc (Tp6 α β γ δ ε ζ) := ⟨fun t => .tup [enc t.a, enc t.b, enc t.c, enc t.d, enc t.e, enc t.f]⟩
structure Tp7 (α β γ δ ε ζ η : Type) where
  a : α
  b : β
  c : γ
  d : δ
  e : ε
  f : ζ
  g : η
instance {α β γ δ ε ζ η : Type} [Enc α] [Enc β] [Enc γ] [Enc δ] [Enc ε] [Enc ζ] [Enc η] : Enc (Tp7 α β γ δ ε ζ η) := ⟨fun t => .tup [enc t.a, enc t.b, enc t.c, enc t.d, enc t.e, enc t.f, enc t.g]⟩
def MuN (K : PySem.W.Frag) (C : Addr) (ns : List Str) (B H : Hp) (p : Addr) (ds : List D) : Prop := B p = none ∧ ∃ dx vs, H p = some (.ins C dx (ns.zip vs)) ∧ vs.length = ns.length ∧ RepL K B vs ds
section
variable {K : PySem.W.Frag} {mg : Str → Option Value} {B B' H H' H0 : Hp} {W : List Addr} {C p q dx : Addr} {ns : List Str} {ds es : List D} {d : D} {v : V} {Q : VK} {xs : List V} {f m nm : Str} {ta tv : TE} {σ : L2.St} {D' : Ends} {k : Nat} {b : D}
theorem MuN.step (m : MuN K C ns B H p ds) (s : Stp W B H B' H') (h : p ∉ W) : MuN K C ns B' H' p ds := by
  obtain ⟨hb, dx, vs, hp, hl, r⟩ := m
  exact ⟨s.nw p _ rfl hb hp, dx, vs, s.fr p _ h hp, hl, r.mono s.ex⟩
theorem MuN.ne (m : MuN K C ns B H p ds) (h : H q = none) : p ≠ q := by
  obtain ⟨hb, dx, vs, hp, hl, r⟩ := m
  exact ne_of_none hp h
theorem MuN.kp (m : MuN K C ns B H q es) (e : Ex B B') (k : ∀ q, q ≠ p → B q = none → B' q = none) (n : q ≠ p) : MuN K C ns B' H q es := by
  obtain ⟨hb, dx, vs, hp, hl, r⟩ := m
  exact ⟨k q n hb, dx, vs, hp, hl, r.mono e⟩
end
section
variable {xs : List V} {x y z u v w : V}
end
mutual
def noL : D → Bool
  | .lst _ => false
  | .dic _ => false
  | .obj _ _ => false
  | .dit _ => false
  | .tup ds => noLs ds
  | _ => true
def noLs : List D → Bool
  | [] => true
  | d :: r => noL d && noLs r
end
mutual
inductive RepN (K : PySem.W.Frag) (B : Hp) : Hp → V → D → Prop where
  | sc {H : Hp} {v : V} {d : D} (r : Rep K B v d) (h : noL d = true) : RepN K B H v d
  | lst {H : Hp} {p : Addr} {xs : List V} {ds : List D} (h : B p = some (.lst xs)) (n : H p = none) (r : RepNL K B (L2.upd H p (.lst [])) xs ds) : RepN K B H (.ref p) (.lst ds)
  | tup {H : Hp} {p : Addr} {xs : List V} {ds : List D} (h : SqT K B p xs) (r : RepNL K B H xs ds) : RepN K B H (.ref p) (.tup ds)
inductive RepNL (K : PySem.W.Frag) (B : Hp) : Hp → List V → List D → Prop where
  | nil {H : Hp} : RepNL K B H [] []
  | cons {H : Hp} {v : V} {d : D} {vs : List V} {ds : List D} (h : RepN K B H v d) (t : RepNL K B H vs ds) : RepNL K B H (v :: vs) (d :: ds)
end
section
variable {K : PySem.W.Frag} {B B' H H' H0 : Hp} {W : List Addr} {C p q dx : Addr} {ns : List Str} {ds es : List D} {d : D} {v : V} {Q : VK} {xs : List V}
mutual
theorem RepN.mono (e : Ex B B') : ∀ {H : Hp} {v : V} {d : D}, RepN K B H v d → RepN K B' H v d
  | _, _, _, .sc r h => .sc (r.mono e) h
  | _, _, _, .lst h n r => .lst (e _ _ h) n (RepNL.mono e r)
  | _, _, _, .tup h r => .tup (e.t h) (RepNL.mono e r)
theorem RepNL.mono (e : Ex B B') : ∀ {H : Hp} {vs : List V} {ds : List D}, RepNL K B H vs ds → RepNL K B' H vs ds
  | _, _, _, .nil => .nil
  | _, _, _, .cons h t => .cons (RepN.mono e h) (RepNL.mono e t)
end
theorem ago_upd {q : Addr} {o o' : HO} (e : ∀ p, H p = none → H' p = none) : ∀ p, (L2.upd H q o) p = none → (L2.upd H' q o') p = none := fun p h => by
  by_cases c : p = q
  · rw [c, upd_same] at h; exact nomatch h
  · rw [upd_ne c] at h ⊢; exact e p h
mutual
theorem RepN.ago : ∀ {H H' : Hp} (e : ∀ p, H p = none → H' p = none) {v : V} {d : D}, RepN K B H v d → RepN K B H' v d
  | _, _, _, _, _, .sc r h => .sc r h
  | _, _, e, _, _, .lst h n r => .lst h (e _ n) (RepNL.ago (ago_upd e) r)
  | _, _, e, _, _, .tup h r => .tup h (RepNL.ago e r)
theorem RepNL.ago : ∀ {H H' : Hp} (e : ∀ p, H p = none → H' p = none) {vs : List V} {ds : List D}, RepNL K B H vs ds → RepNL K B H' vs ds
  | _, _, _, _, _, .nil => .nil
  | _, _, e, _, _, .cons h t => .cons (RepN.ago e h) (RepNL.ago e t)
end
mutual
theorem RepN.rep : ∀ {H : Hp} {v : V} {d : D}, RepN K B H v d → Rep K B v d
  | _, _, _, .sc r _ => r
  | _, _, _, .lst h _ r => .lst (SqL.of h) (RepNL.rep r)
  | _, _, _, .tup h r => .tup h (RepNL.rep r)
theorem RepNL.rep : ∀ {H : Hp} {vs : List V} {ds : List D}, RepNL K B H vs ds → RepL K B vs ds
  | _, _, _, .nil => .nil
  | _, _, _, .cons h t => .cons (RepN.rep h) (RepNL.rep t)
end
theorem RepNL.of : ∀ {vs : List V} {ds : List D}, RepL K B vs ds → noLs ds = true → RepNL K B H vs ds
  | _, _, .nil, _ => .nil
  | _, _, .cons h t, e => by
    have e' : (noL _ && noLs _) = true := e
    rw [Bool.and_eq_true] at e'
    exact .cons (.sc h e'.1) (RepNL.of t e'.2)
theorem RepNL.get : ∀ {vs : List V} {ds : List D} {i : Nat} {d : D}, RepNL K B H vs ds → ds[i]? = some d → ∃ v, vs[i]? = some v ∧ RepN K B H v d
  | _, _, _, _, .nil, e => by simp at e
  | _, _, 0, _, .cons r _, e => by simp at e; subst e; exact ⟨_, rfl, r⟩
  | _, _, i + 1, x, .cons _ t, e => by
    obtain ⟨u, h1, h2⟩ := RepNL.get (i := i) (d := x) t (by simpa using e)
    exact ⟨u, by simpa using h1, h2⟩
theorem RepNL.length : ∀ {vs : List V} {ds : List D}, RepNL K B H vs ds → vs.length = ds.length
  | _, _, .nil => rfl
  | _, _, .cons _ t => congrArg Nat.succ (RepNL.length t)
theorem RepNL.at {vs : List V} {i : Int} (r : RepNL K B H vs ds) (h : atI ds i = some d) : ∃ v, atI vs i = some v ∧ RepN K B H v d := by
  unfold atI at h ⊢
  rw [r.length]
  cases e : ixN ds.length i with
  | none => rw [e] at h; cases h
  | some j => rw [e] at h; exact r.get h
theorem RepNL.snoc {b : D} (h : RepN K B H v b) : ∀ {vs : List V} {ds : List D}, RepNL K B H vs ds → RepNL K B H (vs ++ [v]) (ds ++ [b])
  | _, _, .nil => .cons h .nil
  | _, _, .cons g t => .cons g (RepNL.snoc h t)
theorem RepN.tupE (h : RepN K B H v (.tup ds)) (hn : noLs ds = false) : ∃ p xs, v = .ref p ∧ SqT K B p xs ∧ RepNL K B H xs ds := by
  cases h with
  | sc r h => rw [show noLs ds = true from h] at hn; exact nomatch hn
  | tup h r => exact ⟨_, _, rfl, h, r⟩
theorem RepN.lstE (h : RepN K B H v (.lst ds)) : ∃ p xs, v = .ref p ∧ B p = some (.lst xs) ∧ H p = none ∧ RepNL K B (L2.upd H p (.lst [])) xs ds := by
  cases h with
  | sc r h => exact nomatch h
  | lst h n r => exact ⟨_, _, rfl, h, n, r⟩
theorem Stp.back2 {B0 : Hp} (a : Stp W B H B' H') (e : Ex B0 B) : Stp W B0 H B0 H' := ⟨Ex.refl B0, e.trans (a.ex.trans a.ok), a.fr, a.al, fun _ _ _ h _ => h⟩
def RetN (K : PySem.W.Frag) (B H : Hp) (d : D) (Q : VK) : Prop := ∀ v B' H', Stp [] B H B' H' → RepN K B' H v d → Q v H'
theorem Mu.keepN (m : Mu K B H p ds) (hs : noLs ds = true) (h0 : H0 p = none) : ∃ B', Ex B B' ∧ (∀ q, q ≠ p → B q = none → B' q = none) ∧ (∀ W B0 H0, Stp W B0 H0 B H → Ex B0 H0 → H0 p = none → Stp W B0 H0 B' H) ∧ Rep K B' (.ref p) (.lst ds) ∧ RepN K B' H0 (.ref p) (.lst ds) := by
  obtain ⟨hb, xs, hp, r⟩ := m
  exact ⟨L2.upd B p (.lst xs), Ex.new hb, fun q n e => by rw [upd_ne n]; exact e, fun W B0 H0 st w0 h0 => Stp.keep w0 st h0 hb hp, .lst (SqL.of upd_same) (r.mono (Ex.new hb)), .lst upd_same h0 (.of (r.mono (Ex.new hb)) hs)⟩
def FaN (K : PySem.W.Frag) (B H0 H : Hp) (q : Addr) (ds : List D) : Prop := B q = none ∧ ∃ xs, H q = some (.lst xs) ∧ RepNL K B (L2.upd H0 q (.lst [])) xs ds
theorem FaN.new (w : Ex B H) (h : H q = none) : FaN K B H0 (L2.upd H q (.lst [])) q [] := ⟨w.none h, [], upd_same, .nil⟩
theorem FaN.step (f : FaN K B H0 H q ds) (s : Stp W B H B' H') (h : q ∉ W) : FaN K B' H0 H' q ds := by
  obtain ⟨hb, xs, hq, r⟩ := f
  exact ⟨s.nw _ _ rfl hb hq, xs, s.fr _ _ h hq, r.mono s.ex⟩
theorem FaN.ne (f : FaN K B H0 H p ds) (h : H q = none) : p ≠ q := by
  obtain ⟨hb, xs, hp, r⟩ := f
  exact ne_of_none hp h
theorem FaN.kp (m : FaN K B H0 H q es) (e : Ex B B') (k : ∀ q, q ≠ p → B q = none → B' q = none) (n : q ≠ p) : FaN K B' H0 H q es := by
  obtain ⟨hb, xs, hp, r⟩ := m
  exact ⟨k q n hb, xs, hp, r.mono e⟩
theorem FaN.keepN (m : FaN K B H0 H p ds) (h0 : H0 p = none) : ∃ B', Ex B B' ∧ (∀ q, q ≠ p → B q = none → B' q = none) ∧ (∀ W B0 H0, Stp W B0 H0 B H → Ex B0 H0 → H0 p = none → Stp W B0 H0 B' H) ∧ Rep K B' (.ref p) (.lst ds) ∧ RepN K B' H0 (.ref p) (.lst ds) := by
  obtain ⟨hb, xs, hp, r⟩ := m
  exact ⟨L2.upd B p (.lst xs), Ex.new hb, fun q n e => by rw [upd_ne n]; exact e, fun W B0 H0 st w0 h0 => Stp.keep w0 st h0 hb hp, .lst (SqL.of upd_same) (r.rep.mono (Ex.new hb)), .lst upd_same h0 (r.mono (Ex.new hb))⟩
theorem upd_nn {o : HO} (h : (L2.upd H q o) p = none) : p ≠ q ∧ H p = none := by
  by_cases c : p = q
  · rw [c, upd_same] at h; exact nomatch h
  · rw [upd_ne c] at h; exact ⟨c, h⟩
theorem RepNL.atE {α : Type} [Enc α] {l : List α} {x : α} {i : Int} (r : RepNL K B H xs (l.map enc)) (h : atI l i = some x) : ∃ v, atI xs i = some v ∧ RepN K B H v (enc x) := by
  refine r.at ?_
  unfold atI at h ⊢
  rw [List.length_map]
  cases e : ixN l.length i with
  | none => rw [e] at h; cases h
  | some j => rw [e] at h; show (l.map enc)[j]? = _; rw [List.getElem?_map, show l[j]? = some x from h]; rfl
end
end Y
namespace Y
open PySem PySem.Spec PyProof.Rows
open L2
section
variable {X : Cx}
end
end Y

set_option maxHeartbeats 1000000
namespace Y
open PySem PySem.Spec PyProof.Rows L2
section
variable {K : PySem.W.Frag} {B H : Hp} {Q : VK} {p q : Addr} {l : List D} {k : Int}
end
structure TI (K : PySem.W.Frag) (C : Addr) : Prop where
  h : ∃ o, K.lookup C = some o ∧ o.cls = .type "tuple" ∧ o.dict = none
section
variable {K : PySem.W.Frag} {B H : Hp} {σ : L2.St} {Q : VK} {p : Addr} {xs : List V} {l : List Str} {z : Str} {i : Int} {t : TA} {r : V → List V → Hp → VK → Prop}
end
def valD (ds : List (Key × D)) (k : Key) : Option D := (ds.find? fun kv => decide (kv.1 = k)).map (·.2)
theorem RepK.val {K : PySem.W.Frag} {B : Hp} {k : Key} : ∀ {kvs : List (Key × V)} {ds : List (Key × D)} {d : D}, RepK K B kvs ds → valD ds k = some d → ∃ u, valV kvs k = some u ∧ Rep K B u d
  | _, _, _, .nil, h => nomatch h
  | _, _, d, .cons (k := k') (v := v) (d := d') (vs := vs) (ds := ds) h t, e => by
    unfold valD at e
    unfold valV
    rw [List.find?_cons] at e ⊢
    by_cases c : k' = k
    · rw [decide_eq_true c] at e ⊢
      cases e
      exact ⟨_, rfl, h⟩
    · rw [decide_eq_false c] at e ⊢
      exact RepK.val t e
section
variable {K : PySem.W.Frag} {B H : Hp} {σ : L2.St} {Q : VK} {p : Addr} {z : Str} {d : D} {u : V} {td ty : TE} {ds : List (Key × D)}
variable {k1 k2 k3 v1 v2 v3 : TE} {x1 x2 x3 : Str} {y1 y2 y3 : V} {d1 d2 d3 : D}
end
end Y

set_option maxHeartbeats 4000000
namespace Y
open PySem PySem.Spec PyProof.Rows
open L2
open Enc (enc)
section
variable {K : PySem.W.Frag} {B H : Hp} {σ : L2.St} {Q : VK} {g : TG} {tt : TT} {te to : TE} {β S R' : Type} {P : β → Prop} {R : Err → Prop}
end
theorem Post.ixm {α β : Type} {l : List α} {i : Int} {k : α → Res β} {P : β → Prop} {R : Err → Prop} (h : Post ((ixR l i).bind k) P R) : ∃ x, atI l i = Option.some x ∧ Post (k x) P R := h.ix
section
variable {K : PySem.W.Frag} {B H : Hp} {Q : VK} {z x a b : Str} {i : Int} {lo hi : Option Int}
end
section
variable {H : Hp} {Q : VK} {z c : Str} {n : Nat} {b : Bool}
end
section
variable {K : PySem.W.Frag} {B H : Hp} {σ : L2.St} {Q : VK} {a b : Str} {p : Addr} {xs : List V} {to te : TE} {r : V → List V → Hp → VK → Prop} {l : List Str} {n : Nat} {i : Int}
end
section
variable {K : PySem.W.Frag} {B H : Hp} {Q : VK} {x y : V} {d : D} {es : List D} {i : Int}
end
section
variable {K : PySem.W.Frag} {B H : Hp} {σ : L2.St} {Q : VK} {g : TG} {tt : TT} {te : TE} {β S R' : Type} {P : β → Prop} {R : Err → Prop}
end
end Y

namespace Y
open PySem PySem.Spec PyProof.Rows
open L2
open Enc (enc)
open LamX (CodeO TabB LamS lamEnv lamCx GivesTo)
def TabOf (H : Hp) (q : Str) (ps : Array Value) : Prop := TriplesOk ps.toList ∧ ∀ (at_ : Pos) (u : Value), codeAmong at_ ps.toList = some u → ∃ b, u = .ref b ∧ H b = some (CodeO b q)
section
variable {X : Cx} {pins : List (Addr × Obj)} {σ : L2.St} {H : Hp} {s : Shared}
end
section
variable {X : Cx}
end
def TabK (B H : Hp) (P : Addr) (q : Str) : Prop := B P = none ∧ ∃ ps, H P = some (.tbl ps) ∧ TabOf B q ps
section
variable {W : List Addr} {B H B' H' H1 : Hp} {P p : Addr} {q : Str} {σ : L2.St} {Q : VK}
theorem TabOf.up {ps : Array Value} (t : TabOf B q ps) (e : Ex B B') : TabOf B' q ps := ⟨t.1, fun at_ u h => let ⟨b, e1, e2⟩ := t.2 at_ u h; ⟨b, e1, e _ _ e2⟩⟩
theorem TabK.step (m : TabK B H P q) (s : Stp W B H B' H') (h : P ∉ W) : TabK B' H' P q := by
  obtain ⟨h0, ps, h1, h2⟩ := m
  exact ⟨s.nw P _ rfl h0 h1, ps, s.fr P _ h h1, h2.up s.ex⟩
theorem TabK.ne (m : TabK B H P q) (h : H p = none) : P ≠ p := by
  obtain ⟨_, ps, h1, _⟩ := m
  exact ne_of_none h1 h
theorem TabK.kp (m : TabK B H P q) (e : Ex B B') (k : ∀ z, z ≠ p → B z = none → B' z = none) (n : P ≠ p) : TabK B' H P q := by
  obtain ⟨h0, ps, h1, h2⟩ := m
  exact ⟨k P n h0, ps, h1, h2.up e⟩
end
end Y

namespace Y
open PySem PySem.Spec PyProof.Rows
open L2
open Enc (enc)
section
variable {K : PySem.W.Frag} {B B' H H' : Hp} {Q : VK} {xs : List V} {ds : List D}
end
theorem walk_topE {l : PySem.W.OpenLaw} {q : Program} {loose : List Str} {XP : (Str → Option Value) → Heap → Prop} {YP : World → Heap → Prop} {d : DefRec} {x : Str} {k : Nat} (hn : l.most = some 63) (hdf : d.params.defaults = []) (hr : Room k callerA)
    (F : ∀ (w : World) (mg : Str → Option Value) (fa : Addr) (h : Heap), YP w h → h.Ns mainGlobals mg → mg d.name = some (.ref fa) →
      ∃ K : PySem.W.Frag, K.In h ∧ ∃ fd : FuncData, (∀ (s : Shared) (u : Value), BindsTo s fd ⟨[u], []⟩ [(x, u)]) ∧ ∀ base : Heap, K.In base → base.Ns mainGlobals mg → FnOk l.prog w K mg base CX0 k fa fd [x] (spTop K)) :
    PySem.W.WalkO q loose XP YP l.row.toRowW d [] (fun f vs => PySem.call f vs) :=
  L2.walk_ofE (n := 63) (k := k) (x := x) (CX := CX0) hn (by decide) hdf hr (fun w mg fa h Y G hmg => by
    obtain ⟨K, KX, fd, hb, hF⟩ := F w mg fa h Y G hmg
    exact ⟨K, fd, spTop K, KX, hb, fun H a ns hl _ hS => ⟨a, ns, rfl, hl, hS, fun _ => rfl⟩, hF⟩) fun _ _ _ _ z => z
theorem ex_fact {bs : List Bool} (h : bs.all id = true) (i : Nat) {p : Prop} [Decidable p] (e : bs[i]? = some (decide p)) : p :=
  of_decide_eq_true (List.all_eq_true.mp h _ (List.mem_of_getElem? e))
theorem and_l {a b : Bool} (h : (a && b) = true) : a = true := (Bool.and_eq_true_iff.mp h).1
theorem and_r {a b : Bool} (h : (a && b) = true) : b = true := (Bool.and_eq_true_iff.mp h).2
def refsF (o : Obj) : List Addr := match o.data with
  | .func fd => He.refV fd.code ++ He.refV fd.defaults
  | .cls cd => cd.ns :: cd.mro.flatMap He.refV
  | _ => []
def refsE (o : Obj) : List Addr := match o.data with
  | .dict es _ => es.toList.flatMap fun e => He.refV e.val
  | _ => []
def stepY (g : Addr → Option Obj) (f : Obj → List Addr) (as : List Addr) : List Addr := as.flatMap fun a => match g a with
  | some o => f o
  | none => []
def asY3 (g : Addr → Option Obj) (m c n : List Addr) : List Addr := mainGlobals :: cStatics :: (m ++ (c ++ (n ++ stepY g refsF n)))
def asY2 (g : Addr → Option Obj) (m c : List Addr) : List Addr := asY3 g m c (stepY g refsE c)
def asY1 (g : Addr → Option Obj) (m : List Addr) : List Addr := asY2 g m (stepY g refsF m)
def asY (g : Addr → Option Obj) (n : Nat) : List Addr := asY1 g (stepY g refsE [mainGlobals])
def frY (g : Addr → Option Obj) (n : Nat) : PySem.W.Frag := He.frT g (asY g n)
def obsY (n : Nat) (fn : List He.DefD) (tf : List He.Defn) (ex : PySem.W.Frag → Bool) (g : Addr → Option Obj) : He.AlX := (He.obsT [] fn [] (frY g n), ex (frY g n) && He.tabsB g tf (frY g n))
theorem says_as {as : List Addr} {fn : List He.DefD} {tf : List He.Defn} {ex : PySem.W.Frag → Bool} {w : World} {h : Heap}
    (e1 : He.obsT [] fn [] (He.frT h.get? as) = He.valT fn [] w) (e2 : (ex (He.frT h.get? as) && He.tabsB h.get? tf (He.frT h.get? as)) = true) : He.SaysX [] fn [] tf ex w h (He.frT h.get? as) := by
  generalize hK : He.frT h.get? as = K at e1 e2
  have each : ∀ p ∈ tf, PySem.W.codeHdIn K (He.cT K p).1 (He.cT K p).2 = true ∧ ∃ o, h.get? (He.cT K p).2 = some o ∧ He.emptyTab o = true := by
    intro p m
    have b := List.all_eq_true.mp (and_r e2) p m
    refine ⟨and_l b, ?_⟩
    have b2 := and_r b
    split at b2
    · rename_i o q
      exact ⟨o, q, b2⟩
    · cases b2
  refine ⟨e1, and_l e2, fun p m => (each p m).1, fun p m => ?_, fun p m => ?_⟩
  · obtain ⟨o, q, z⟩ := (each p m).2
    have := He.frT_none (as := as) q z
    rwa [hK] at this
  · obtain ⟨o, q, z⟩ := (each p m).2
    rw [q, He.emptyTab_eq z]
def hookY (n : Nat) (fn : List He.DefD) (tf : List He.Defn) (ex : PySem.W.Frag → Bool) : PySem.W.Hook where
  α := He.AlX
  obs := fun s => obsY n fn tf ex s.heap.get?
  val := fun w => He.valX fn [] w
  says := fun w h => ∃ K : PySem.W.Frag, K.In h ∧ He.SaysX [] fn [] tf ex w h K
  of := fun _ _ e => ⟨_, He.frT_in, says_as (congrArg (·.1) e) (congrArg (·.2) e)⟩
  keeps := fun _ _ _ z k => by
    obtain ⟨K, hK, c⟩ := z
    exact ⟨K, PySem.W.Frag.In.keeps hK k, c.t, c.more, c.hd, c.out, fun p m => k _ _ (c.empty p m)⟩
theorem obsY_of {n : Nat} {fn : List He.DefD} {tf : List He.Defn} {ex : PySem.W.Frag → Bool} {g : Addr → Option Obj} {s : Shared} (h : ∀ a, g a = s.heap.get? a) : obsY n fn tf ex g = (hookY n fn tf ex).obs s := by
  have e : g = s.heap.get? := funext h
  subst e
  rfl
theorem run_and {r : PySem.W.OpenRow} {q : Program} {n M : Nat} {fn : List He.DefD} {tf : List He.Defn} {e1 e2 : PySem.W.Frag → Bool} {o1 o2 : PySem.W.SharedT → He.AlX} {o : PySem.W.SharedT → He.AlX} {loose : List Str} {w : World}
    (b : HandSHeadRun.RunEq r q (hookY n [] [] e2) o2 M loose w) (a : HandSHeadRun.RunEq r q (hookY n fn tf e1) o1 M loose w)
    (h1 : o1 = fun s => obsY n fn tf e1 (HandSHeadRun.getT s) := by rfl) (h2 : o2 = fun s => obsY n [] [] e2 (HandSHeadRun.getT s) := by rfl) (h : o = fun s => obsY n fn tf (fun K => e1 K && e2 K) (HandSHeadRun.getT s) := by rfl) :
    HandSHeadRun.RunEq r q (hookY n fn tf fun K => e1 K && e2 K) o M loose w := by
  subst h1 h2 h
  intro os
  have a := a os
  have b := b os
  obtain ⟨s, hs, ea⟩ := Option.map_eq_some_iff.mp a
  rw [hs] at b ⊢
  have eb := Option.some.inj b
  have a1 := congrArg (·.1) ea
  have a2 := congrArg (·.2.1) ea
  have a3 := congrArg (fun z => (z.2.2 : He.AlX).1) ea
  have a4 : (e1 _ && He.tabsB _ tf _) = true := congrArg (fun z => (z.2.2 : He.AlX).2) ea
  have b4 : (e2 _ && true) = true := congrArg (fun z => (z.2.2 : He.AlX).2) eb
  refine congrArg some (Prod.ext a1 (Prod.ext a2 (Prod.ext a3 ?_)))
  show ((e1 _ && e2 _) && He.tabsB _ tf _) = true
  rw [Bool.and_true] at b4
  rw [b4, Bool.and_true]
  exact a4
section
variable {K : PySem.W.Frag} {x : Str}
def findB (K : PySem.W.Frag) (c mc : Value) (x : Str) (a : Addr) : Bool := match PySem.W.findCls K c mc x with
  | some (.val (.ref b)) => decide (b = a)
  | _ => false
theorem find_cls {c mc : Value} {a : Addr} (h : findB K c mc x a = true) : PySem.W.findCls K c mc x = some (.val (.ref a)) := by
  unfold findB at h
  split at h
  · rename_i b e
    rw [of_decide_eq_true h] at e
    exact e
  · cases h
theorem dfl_none {dV : Value} (h : DflV K dV []) : dV = .none := by
  rcases h with h | h
  · exact h.2
  · exact absurd rfl h.1
end
def nS (i j c : Int) : Nat := (Builtin.Range.rangeSize i j c).toNat
def RgS (i j c : Int) : Prop := RgC i j c (nS i j c)
instance (i j c : Int) : Decidable (RgS i j c) := by unfold RgS RgC; infer_instance
section
variable {S R' β : Type} {P : β → Prop} {R : Err → Prop} {σ : L2.St} {H H' H0 B B0 B1 H1 : Hp} {g : TG} {tb : TS} {D' : Ends} {K : PySem.W.Frag} {p q t : Addr} {xs us zs : List V} {y : V} {ds : List D}
instance {α β γ δ : Type} [Enc α] [Enc β] [Enc γ] [Enc δ] [Dec α] [Dec β] [Dec γ] [Dec δ] : Dec (Tp4 α β γ δ) := ⟨fun d => match d with | .tup [a, b, c, e] => (Dec.dec a).bind fun x => (Dec.dec b).bind fun y => (Dec.dec c).bind fun z => (Dec.dec e).bind fun w => some ⟨x, y, z, w⟩ | _ => none, fun d x e => by
  split at e
  · obtain ⟨x1, h1, e⟩ := Option.bind_eq_some_iff.mp e
    obtain ⟨x2, h2, e⟩ := Option.bind_eq_some_iff.mp e
    obtain ⟨x3, h3, e⟩ := Option.bind_eq_some_iff.mp e
    obtain ⟨x4, h4, e⟩ := Option.bind_eq_some_iff.mp e
    cases e
    rw [Dec.ok _ _ h1, Dec.ok _ _ h2, Dec.ok _ _ h3, Dec.ok _ _ h4]
    rfl
  · cases e⟩
def RvN (K : PySem.W.Frag) (H0 H : Hp) (q : Addr) (k M : Nat) (v : V) : Prop := ∃ t us p zs, v = .ref t ∧ SqT K H t us ∧ us[k]? = some (.ref p) ∧ H p = some (.lst zs) ∧ zs.length ≤ M ∧ H0 p = none ∧ p ≠ q
def RavN (K : PySem.W.Frag) (B H H' : Hp) (q : Addr) (k : Nat) (xs : List V) (M : Nat) : Prop := Stp [] B H B H' ∧ H' q = some (.lst xs) ∧ ∀ v ∈ xs, RvN K H H' q k M v
theorem SqT.wr {o : HO} (h : SqT K H t us) (hp : H p = some (.lst zs)) : SqT K (upd H p o) t us := by
  rcases h with (h | ⟨o', h⟩) | h
  · exact .inl (.inl (by rw [upd_ne (fun e => by rw [e, hp] at h; exact nomatch h)]; exact h))
  · exact .inl (.inr ⟨o', by rw [upd_ne (fun e => by rw [e, hp] at h; exact nomatch h)]; exact h⟩)
  · exact .inr h
theorem RavN.wr {k M : Nat} (w : Ex B H) (r : RavN K B H H' q k xs M) (hp : H' p = some (.lst zs)) (hz : zs.length ≤ M) (h0 : H p = none) (ne : p ≠ q) : RavN K B H (upd H' p (.lst (zs ++ [y]))) q k xs (M + 1) := by
  obtain ⟨s, hq, hv⟩ := r
  refine ⟨s.wr h0 w ⟨_, hp⟩, by rw [upd_ne ne.symm]; exact hq, fun v m => ?_⟩
  obtain ⟨t, us, p2, z2, rfl, ht, hk, hp2, hz2, h2, n2⟩ := hv v m
  by_cases e : p2 = p
  · subst e
    exact ⟨t, us, p2, zs ++ [y], rfl, SqT.wr ht hp, hk, upd_same, by rw [List.length_append]; exact Nat.succ_le_succ hz, h2, n2⟩
  · exact ⟨t, us, p2, z2, rfl, SqT.wr ht hp, hk, by rw [upd_ne e]; exact hp2, Nat.le_succ_of_le hz2, h2, n2⟩
theorem RavN.start {α : Type} [Enc α] {l : List α} {k : Nat} {len : α → Nat} (s : Stp [] B H B H1) (w1 : Ex B1 H1) (hb : B1 q = some (.lst xs)) (hr : RepNL K B1 (L2.upd H q (.lst [])) xs (l.map enc))
    (hk : ∀ x : α, ∃ ds es, enc x = .tup ds ∧ noLs ds = false ∧ ds[k]? = some (.lst es) ∧ es.length = len x) (gd : (l.all fun x => decide (len x + l.length < 999999)) = true) :
    ∃ M, RavN K B H H1 q k xs M ∧ xs.length = l.length ∧ M + l.length < 1000000 := by
  have hl : xs.length = l.length := by rw [hr.length, List.length_map]
  have hg : ∀ x ∈ l, len x + l.length < 999999 := fun x m => of_decide_eq_true (List.all_eq_true.mp gd x m)
  refine ⟨999999 - l.length, ⟨s, w1 _ _ hb, fun v m => ?_⟩, hl, ?_⟩
  · obtain ⟨i, hi⟩ := List.mem_iff_getElem?.mp m
    have h1 := (List.getElem?_eq_some_iff.mp hi).1
    have hx : l[i]? = some (l[i]'(hl ▸ h1)) := List.getElem?_eq_getElem (hl ▸ h1)
    obtain ⟨u, hu, ru⟩ := hr.get (i := i) (d := enc (l[i]'(hl ▸ h1))) (by rw [List.getElem?_map, hx]; rfl)
    rw [hi] at hu; cases hu
    obtain ⟨ds, es, e1, e2, e3, e4⟩ := hk (l[i]'(hl ▸ h1))
    rw [e1] at ru
    obtain ⟨t, us, rfl, ht, hus⟩ := ru.tupE e2
    obtain ⟨u2, hu2, ru2⟩ := hus.get e3
    obtain ⟨p2, zs, rfl, hb2, hn2, hz2⟩ := ru2.lstE
    have := hg _ (List.mem_of_getElem? hx)
    exact ⟨t, us, p2, zs, rfl, w1.t ht, hu2, w1 _ _ hb2, by rw [hz2.length, e4]; omega, (upd_nn hn2).2, (upd_nn hn2).1⟩
  · cases l with
    | nil => exact (by decide : 999999 - 0 + 0 < 1000000)
    | cons x l =>
      have := hg x List.mem_cons_self
      omega
end
end Y

namespace Y
open PySem PySem.Spec PyProof.Rows
open L2
open LamX (TabB)
open Enc (enc)
end Y

namespace Y
open PySem PySem.Spec PyProof.Rows
open L2
open Enc (enc)
section
variable {X : Cx} {o e : Expr} {es : List Expr} {to : TE} {ta : TA} {C C2 : Addr} {mc : Value} {p apos pos : Pos} {f1 f2 : Str} {K : PySem.W.Frag} {σ : L2.St} {H : Hp} {Q : VK}
def tXini (K : PySem.W.Frag) (C2 : Addr) (to : TE) (ta : TA) : TE := fun σ H Q => to σ H fun x H1 => x = .ref C2 ∧ ta σ H1 fun vs H2 => ∃ (a C : Addr) (ws : List V), vs = .ref a :: ws ∧ ws.length ≤ 1000 ∧ OexC K C ∧ H2 a = some (exo a C none) ∧ Q .non H2
theorem pe_xini {pl : Sem Bool} (ho : PE X o to) (r : ClX.CRead X.K C2 mc) (fv : PySem.W.findCls X.K (.ref C2) mc "__init__" = some (.val (.builtin "ValueError.__init__"))) (ha : PA X (e :: es) ta)
    (h1 : starEach (e :: es) X.env = (false, eval e X.env) :: starEach es X.env := by rfl) (h2 : (backTo pos (starEach es X.env)).any (·.1) = false := by rfl)
    (h3 : eval (.Call (.Attribute o "__init__" apos) (e :: es) [] pos) X.env = (do let v ← eval o X.env; standAt apos.atName; let (g, b) ← holding [v] (getMethod v "__init__" pl); callWith pos g b (backTo pos (starEach (e :: es) X.env)) (backToKw pos (keywordEach [] X.env))) := by rfl) :
    PE X (.Call (.Attribute o "__init__" apos) (e :: es) [] pos) (tXini X.K C2 to ta) :=
  ⟨fun pins s σ H Q I h => PySem.W.methodCall_KW (pl := pl) (thn (ho.run pins s σ H _ I h) fun u s1 ⟨x, H1, I1, rx, ex, q⟩ => by
    subst ex
    obtain rfl : u = Value.ref C2 := rx
    refine PySem.W.method_cls I1.kIn r.ga (PySem.W.cls_value I1.kIn r.rd fv (by decide +kernel) ?_)
    refine PyProof.Rows.callWith_method1 (thn (ha.run pos pins _ σ H1 _ (I1.tok _) q) fun us s2 ⟨vs, H2, I2, rv, a, C, ws, ev, hl, T, ea, q2⟩ => ?_) h1 h2
    subst ev
    cases rv with
    | @cons _ u0 _ ur ra rr =>
      obtain rfl : u0 = Value.ref a := ra
      exact oinit_ok T I2 ea (by rw [← Paired.length rr, sizeLine_eq]; omega) fun s3 J => ⟨.non, H2, J, rfl, q2⟩) h3⟩
theorem h_xini {to : TE} {ta : TA} (h : to σ H fun x H1 => x = .ref C2 ∧ ta σ H1 fun vs H2 => ∃ (a C : Addr) (ws : List V), vs = .ref a :: ws ∧ ws.length ≤ 1000 ∧ OexC K C ∧ H2 a = some (exo a C none) ∧ Q .non H2) : tXini K C2 to ta σ H Q := h
theorem mkX_core {CX : CXT} {fI : Addr} {k : Nat} {fd : FuncData} {ps : List Str} {sp : Sp} {ds us : List Value} {dvs vs : List V} {pins : List (Addr × Obj)} {s1 : Shared} {Q : XK} (T : OexC X.K C) (iC : PySem.W.findIn X.K (.ref C) "__init__" = some (some (.ref fI)))
    (tI : PySem.W.typeIn X.K (.ref fI) = some (.type "function")) (F1 : FnOk X.prog X.w X.K X.mg X.base CX k fI fd ps sp) (hr : Room (k + 1) X.A) (hb : Binds X.K fd ps ds) (hd : Vals dvs ds) (hx : Passes CX X (fun _ _ _ => False)) (I1 : Inv X pins σ H s1) (r1 : Vals vs us) (hz : vs.length ≤ 1000)
    (q1 : ∀ a, H a = none → sp (.ref a :: (vs ++ dvs)) (upd H a (exo a C none)) (fun v H2 => v = .non ∧ ∃ (d : Addr) (fs : List (Str × V)), H2 a = some (exo a C (some d)) ∧ H2 d = some (exd d fs) ∧ H d = none ∧ Q (.ref C) (some d) (upd (del H2 a) d (.xd fs))) (fun _ _ _ => False)) :
    wpAny (model X.prog X.w) X.A (call (.ref C) us) (fun u s' => L2N.MkP X pins σ Q u s' ∧ L2H.Six u s') X.xe s1 := by
  obtain ⟨nm, qn, N, bs, bm, sn, sub, ab, col, dd, k0, k1, k2, k3, k5, lC, hbm⟩ := T.cls
  obtain ⟨hp, g, dr, tk, os⟩ := s1
  generalize hA : hp.objs.size + 1 = a
  have le : hp.objs.size ≤ a := by omega
  have fre : H a = none := I1.hok.fresh le
  have q2 := q1 a fre
  have kp : ∀ b u, hp.get? b = some u → ((hp.push (PySem.W.kdv_tup us)).push (PySem.HandSPX.excO C hp.objs.size)).get? b = some u := fun b u z => Heap.get?_push_of_some _ (Heap.get?_push_of_some _ z)
  have at_ : ((hp.push (PySem.W.kdv_tup us)).push (PySem.HandSPX.excO C hp.objs.size)).get? a = some (PySem.HandSPX.excO C hp.objs.size) := by
    subst hA
    heap_get
  have I2 := I1.laid (t' := tk) (a := a) (o := exo a C none) kp le (exo_ok at_)
  have rv : Vals (V.ref a :: (vs ++ dvs)) (Value.ref a :: (us ++ ds)) := .cons rfl (r1.append hd)
  have len : (Value.ref a :: us ++ ds).length = ps.length := (F1.len _ _ _ _ q2 ▸ rv.length).symm
  have many : us.length ≤ sizeLine := by rw [← Paired.length r1, sizeLine_eq]; omega
  have run := F1.run (X.A.under (Code.builtin "type.__call__" { pos := Value.ref C :: us })) X.stack _ _ ⟨Value.ref a :: us, []⟩ (Value.ref a :: (us ++ ds)) _ _ (fun _ _ _ => False) (hr.make C us []) (I2.env0.make C us []) (hb _ (Value.ref a :: us) I2.kIn len) rv q2
  subst hA
  refine wpAny_call (PySem.HandSPX.call_own F.excBase_ValueError (fun Y => PySem.HandSPX.refsVE_contains Y bm hbm) (I1.kIn _ _ lC) (PySem.W.looks_findIn I1.kIn iC) (fun self => PySem.W.bind_fn I1.kIn self tI) many (codeAny_mono run fun r s2 z => ?_))
  match r, z with
  | .error er, z => exact hx pins σ _ _ er s2 I2 z
  | .ok .next, z => exact False.elim z
  | .ok .brk, z => exact False.elim z
  | .ok .cont, z => exact False.elim z
  | .ok (.ret u), z =>
    obtain ⟨v, H2, os2, bare2, un2, hok2, ru, ev, d, fs, ea, ed, fd1, w⟩ := z
    subst ev
    obtain ⟨h2, g2, d2, t2, os'⟩ := s2
    obtain ⟨t0, G, J, kG, ge, he, na⟩ := mk_end0 (d2 := d2) (t2 := t2) I1 le kp un2 hok2 os2 bare2 ea ed fd1
    refine ⟨ru, ⟨_, _, _, ⟨G, g2, d2, t2, os'⟩, _, .ref C, some d, rfl, J, kG, ge, he, ⟨rfl, rfl, fun vs e => ?_⟩, rfl, rfl, na, rfl, bare2, raises_own T.exC T.tyC, w⟩, fun b oe vs eb hg e => ?_⟩
    · cases e; rfl
    · cases eb
      have hg' : h2.get? _ = some oe := hg
      rw [he] at hg'
      cases hg'
      cases e
      show (4 : Nat) < 6
      decide
end
theorem pmk2 {X : Cx} {e : Expr} {t : L2.St → Hp → XK → Prop} (h : L2H.PMk5 X e t) : L2.PMk X e t := fun pins s σ H Q I q => thn (h pins s σ H Q I q) fun u s' x => by
  obtain ⟨⟨a, oe, vs, sI, H', cls, d, e1, J, k, n, he, hz, hd, h1, na, os, ag, r, w⟩, _⟩ := x
  exact ⟨a, oe, vs, sI, H', cls, d, e1, J, k, n, he, ⟨hz.1, hz.2.1⟩, hd, h1, na, os, ag, r, w⟩
def findBuB (K : PySem.W.Frag) (c mc : Value) (x : Str) (b : String) : Bool := match PySem.W.findCls K c mc x with
  | some (.val (.builtin b')) => decide (b' = b)
  | _ => false
theorem find_bu {K : PySem.W.Frag} {c mc : Value} {x : Str} {b : String} (h : findBuB K c mc x b = true) : PySem.W.findCls K c mc x = some (.val (.builtin b)) := by
  unfold findBuB at h
  split at h
  · rename_i b' e
    rw [of_decide_eq_true h] at e
    exact e
  · cases h
def oexB (K : PySem.W.Frag) (C : Addr) : Bool := match K.lookup C with
  | some ⟨.type t, _, .cls cd, sl⟩ => (match cd.mro, sl.toList with
    | .ref C' :: bm, [_, _, _, _, some (.builtin n), _] => decide (t = "type") && (decide (C' = C) && (decide (n = "ValueError.__new__") && (!cd.hasDel && (cd.hasDict && PySem.HandSPX.refsVE bm))))
    | _, _ => false)
  | _ => false
theorem oex_of {K : PySem.W.Frag} {C : Addr} (h : oexB K C = true) (sa : PySem.W.findIn K (.ref C) "__setattr__" = some (some (.builtin "object.__setattr__"))) (exC : PySem.W.subIn K (.ref C) (.type "BaseException") = some true) (tyC : PySem.W.typeIn K (.ref C) = some (.type "type")) (kC : PySem.W.keepIn K (.ref C) = true) : OexC K C := by
  refine ⟨?_, sa, exC, tyC, kC⟩
  unfold oexB at h
  split at h
  · rename_i t dd cd sl e
    split at h
    · rename_i C' bm k0 k1 k2 k3 n k5 em es
      have h1 := and_l h
      have h2 := and_l (and_r h)
      have h3 := and_l (and_r (and_r h))
      have h4 := and_l (and_r (and_r (and_r h)))
      have h5 := and_l (and_r (and_r (and_r (and_r h))))
      have h6 := and_r (and_r (and_r (and_r (and_r h))))
      obtain rfl := of_decide_eq_true h1
      obtain rfl := of_decide_eq_true h2
      obtain rfl := of_decide_eq_true h3
      obtain ⟨nm, bs, mro, ns, qn, hd, sn, sub, ab, col, del⟩ := cd
      dsimp only at em h4 h5
      subst em h5
      obtain rfl : del = false := by cases del <;> simp_all
      obtain ⟨l⟩ := sl
      dsimp only at es
      subst es
      exact ⟨nm, qn, ns, bs, bm, sn, sub, ab, col, dd, k0, k1, k2, k3, k5, e, h6⟩
    · cases h
  · cases h
section
variable {Pr : Program} {w : World} {K : PySem.W.Frag} {mg : Str → Option Value} {base : Heap} {x qual : Str} {st : Stmt} {dv : List Value} {f : Addr} {fd : FuncData} {ps : List Str} {X : Cx} {W : WX}
end
section
variable {X : Cx} {x : Str} {c : Value} {body suite : List Stmt} {b₀ : Stmt} {np pos pos' : Pos} {tb : WX → TS} {ts : Addr → Value → Option Addr → TS} {Wout : WX} {K : PySem.W.Frag} {mg : Str → Option Value} {nm : Str} {D' : Ends} {σ : L2.St} {H : Hp}
end
end Y

set_option maxHeartbeats 2000000
namespace Y
open PySem PySem.Spec PyProof.Rows
open L2
open Enc (enc)
inductive RepA {κ κ' : Type} (f : κ → κ') (K : PySem.W.Frag) (B : Hp) : List (κ' × V) → List (κ × D) → Prop where
  | nil : RepA f K B [] []
  | cons {k : κ} {v : V} {d : D} {vs : List (κ' × V)} {ds : List (κ × D)} (h : Rep K B v d) (t : RepA f K B vs ds) : RepA f K B ((f k, v) :: vs) ((k, d) :: ds)
def getA {κ α : Type} [DecidableEq κ] (l : List (κ × α)) (k : κ) : Option α := (l.find? fun kv => decide (kv.1 = k)).map (·.2)
def hasA {κ α : Type} [DecidableEq κ] (l : List (κ × α)) (k : κ) : Bool := (getA l k).isSome
def putA {κ α : Type} [DecidableEq κ] (l : List (κ × α)) (k : κ) (v : α) : List (κ × α) :=
  if (l.any fun kv => decide (kv.1 = k)) = true then l.map (fun kv => if kv.1 = k then (kv.1, v) else kv) else l ++ [(k, v)]
def encA {κ α : Type} [Enc α] (l : List (κ × α)) : List (κ × D) := l.map fun kv => (kv.1, enc kv.2)
def fI (k : Int) : Key := .inl k
def fP (k : Int × Int) : List Key := [.inl k.1, .inl k.2]
theorem fI_inj {a b : Int} (h : fI a = fI b) : a = b := Sum.inl.inj h
theorem fP_inj {a b : Int × Int} (h : fP a = fP b) : a = b := by
  have h1 := List.cons.inj h
  exact Prod.ext (Sum.inl.inj h1.1) (Sum.inl.inj (List.cons.inj h1.2).1)
section
variable {κ κ' : Type} [DecidableEq κ] [DecidableEq κ'] {f : κ → κ'} {K : PySem.W.Frag} {B B' : Hp} {kvs : List (κ' × V)} {ds : List (κ × D)} {k : κ} {v : V} {d : D}
omit [DecidableEq κ] [DecidableEq κ'] in
theorem RepA.mono (e : Ex B B') (r : RepA f K B kvs ds) : RepA f K B' kvs ds := by
  induction r with
  | nil => exact .nil
  | cons h t ih => exact .cons (h.mono e) ih
omit [DecidableEq κ] [DecidableEq κ'] in
theorem RepA.length (r : RepA f K B kvs ds) : kvs.length = ds.length := by
  induction r with
  | nil => rfl
  | cons h t ih => rw [List.length_cons, List.length_cons, ih]
theorem getA_pos {α : Type} {p : κ × α} {r : List (κ × α)} (e : p.1 = k) : getA (p :: r) k = some p.2 := by simp [getA, List.find?_cons, e]
theorem getA_neg {α : Type} {p : κ × α} {r : List (κ × α)} (e : ¬ p.1 = k) : getA (p :: r) k = getA r k := by simp [getA, List.find?_cons, e]
theorem RepA.val (hf : ∀ {a b}, f a = f b → a = b) (r : RepA f K B kvs ds) : (∀ d, getA ds k = some d → ∃ v, valV kvs (f k) = some v ∧ Rep K B v d) ∧ (getA ds k = none → valV kvs (f k) = none) := by
  induction r with
  | nil => exact ⟨(fun d e => nomatch e), fun _ => rfl⟩
  | @cons k0 v0 d0 vs ds h t ih =>
    by_cases c : k0 = k
    · rw [getA_pos c, valV_pos (p := (f k0, v0)) (show f k0 = f k by rw [c])]
      exact ⟨(fun d e => ⟨v0, rfl, by cases e; exact h⟩), (fun e => nomatch e)⟩
    · rw [getA_neg c, valV_neg (p := (f k0, v0)) (fun z => c (hf z))]
      exact ih
theorem RepA.any (hf : ∀ {a b}, f a = f b → a = b) (r : RepA f K B kvs ds) : (kvs.any fun kv => decide (kv.1 = f k)) = ds.any fun kv => decide (kv.1 = k) := by
  induction r with
  | nil => rfl
  | @cons k0 v0 d0 vs ds h t ih =>
    rw [List.any_cons, List.any_cons, ih]
    congr 1
    by_cases c : k0 = k
    · rw [decide_eq_true (show (f k0, v0).1 = f k by rw [c]), decide_eq_true (show (k0, d0).1 = k from c)]
    · rw [decide_eq_false (show ¬ (f k0, v0).1 = f k from fun z => c (hf z)), decide_eq_false (show ¬ (k0, d0).1 = k from c)]
omit [DecidableEq κ] [DecidableEq κ'] in
theorem RepA.snoc (r : RepA f K B kvs ds) (h : Rep K B v d) : RepA f K B (kvs ++ [(f k, v)]) (ds ++ [(k, d)]) := by
  induction r with
  | nil => exact .cons h .nil
  | cons h' t ih => exact .cons h' ih
theorem RepA.put (hf : ∀ {a b}, f a = f b → a = b) (r : RepA f K B kvs ds) (h : Rep K B v d) : RepA f K B (putK kvs (f k) v) (putA ds k d) := by
  unfold putK putA
  rw [r.any hf]
  by_cases c : (ds.any fun kv => decide (kv.1 = k)) = true
  · rw [if_pos c, if_pos c]
    clear c
    induction r with
    | nil => exact .nil
    | @cons k0 v0 d0 vs ds h' t ih =>
      rw [List.map_cons, List.map_cons]
      by_cases e : k0 = k
      · rw [if_pos (show (f k0, v0).1 = f k by rw [e]), if_pos (show (k0, d0).1 = k from e)]
        exact .cons h ih
      · rw [if_neg (show ¬ (f k0, v0).1 = f k from fun z => e (hf z)), if_neg (show ¬ (k0, d0).1 = k from e)]
        exact .cons h' ih
  · rw [if_neg c, if_neg c]
    exact r.snoc h
end
section
variable {κ α : Type} [DecidableEq κ] [Enc α] {l : List (κ × α)} {k : κ} {x : α}
theorem getA_enc : getA (encA l) k = (getA l k).map enc := by
  induction l with
  | nil => rfl
  | cons p l ih =>
    show getA ((p.1, enc p.2) :: encA l) k = _
    by_cases c : p.1 = k
    · rw [getA_pos (p := (p.1, enc p.2)) c, getA_pos c]; rfl
    · rw [getA_neg (p := (p.1, enc p.2)) c, getA_neg c, ih]
theorem putA_enc : putA (encA l) k (enc x) = encA (putA l k x) := by
  have e : ((encA l).any fun kv => decide (kv.1 = k)) = l.any fun kv => decide (kv.1 = k) := by
    unfold encA
    rw [List.any_map]
    rfl
  unfold putA
  rw [e]
  split
  · unfold encA
    rw [List.map_map, List.map_map]
    refine List.map_congr_left fun p _ => ?_
    show (if p.1 = k then (p.1, enc x) else (p.1, enc p.2)) = _
    by_cases c : p.1 = k
    · rw [if_pos c]; show _ = (fun kv : κ × α => (kv.1, enc kv.2)) (if p.1 = k then (p.1, x) else p); rw [if_pos c]
    · rw [if_neg c]; show _ = (fun kv : κ × α => (kv.1, enc kv.2)) (if p.1 = k then (p.1, x) else p); rw [if_neg c]
  · unfold encA; rw [List.map_append]; rfl
omit [Enc α] in
theorem putA_len : (putA l k x).length ≤ l.length + 1 := by
  unfold putA
  split
  · rw [List.length_map]; omega
  · rw [List.length_append]; exact Nat.le_refl _
end
def MuK (K : PySem.W.Frag) (B H : Hp) (p : Addr) (ds : List (Int × D)) : Prop := B p = none ∧ ∃ kvs, H p = some (.dK kvs) ∧ RepA fI K B kvs ds
def MuT (K : PySem.W.Frag) (B H : Hp) (p : Addr) (ds : List ((Int × Int) × D)) : Prop := B p = none ∧ ∃ kvs, H p = some (.dT kvs) ∧ RepA fP K B kvs ds
instance : Enc (Int × Int) := ⟨fun p => .pr p.1 p.2⟩
section
variable {K : PySem.W.Frag} {B B' H H' : Hp} {W : List Addr} {p q : Addr} {ds : List (Int × D)} {dt : List ((Int × Int) × D)} {v u : V} {d : D} {Q : VK} {σ : L2.St} {td ty tv : TE} {D' : Ends} {xs : List V}
theorem MuK.step (m : MuK K B H p ds) (s : Stp W B H B' H') (h : p ∉ W) : MuK K B' H' p ds := by
  obtain ⟨hb, xs, hp, r⟩ := m
  exact ⟨s.nw p _ rfl hb hp, xs, s.fr p _ h hp, r.mono s.ex⟩
theorem MuK.ne (m : MuK K B H p ds) (h : H q = none) : p ≠ q := by
  obtain ⟨hb, xs, hp, r⟩ := m
  exact ne_of_none hp h
theorem MuT.step (m : MuT K B H p dt) (s : Stp W B H B' H') (h : p ∉ W) : MuT K B' H' p dt := by
  obtain ⟨hb, xs, hp, r⟩ := m
  exact ⟨s.nw p _ rfl hb hp, xs, s.fr p _ h hp, r.mono s.ex⟩
theorem MuT.ne (m : MuT K B H p dt) (h : H q = none) : p ≠ q := by
  obtain ⟨hb, xs, hp, r⟩ := m
  exact ne_of_none hp h
theorem MuK.isD (m : MuK K B H p ds) : IsD H p := by obtain ⟨_, kvs, hp, _⟩ := m; exact .inl ⟨kvs, .inl hp⟩
theorem MuT.isD (m : MuT K B H p dt) : IsD H p := by obtain ⟨_, kvs, hp, _⟩ := m; exact .inr ⟨kvs, .inl hp⟩
theorem h_dnewT (w : Ex B H) (h : ∀ p H', H p = none → Stp [] B H B H' → MuT K B H' p [] → Q (.ref p) H') : tDNewT σ H Q := fun p hp => h p _ hp (Stp.newM w hp) ⟨w.none hp, [], upd_same, .nil⟩
def rDGet : V → V → Hp → VK → Prop := fun x y H Q => ∃ a v, x = .ref a ∧ DGet H a y (some v) ∧ Q v H
def rDIn (n : Bool) : V → V → Hp → (V → Hp → Prop) → Prop := fun y x H Q => ∃ a o, x = .ref a ∧ DGet H a y o ∧ Q (.bl (o.isSome != n)) H
def rDGet1 : Addr → V → Hp → VK → Prop := fun a y H Q => ∃ o, DGet H a y o ∧ Q (o.getD .non) H
theorem h_dgetE (h : td σ H fun x H1 => ty σ H1 fun y H2 => rDGet x y H2 Q) : tDGet td ty σ H Q := h
theorem Rep.prH {a b : Int} (w : Ex B H) (r : Rep K B v (.pr a b)) : ∃ q, v = .ref q ∧ H q = some (.tup ((fP (a, b)).map kV)) := by
  cases r with
  | pr h => exact ⟨_, rfl, w _ _ h⟩
theorem MuK.get (m : MuK K B H p ds) {k : Int} : ∃ o, DGet H p (.int k) o ∧ (∀ d, getA ds k = some d → ∃ v, o = some v ∧ Rep K B v d) ∧ (getA ds k = none → o = none) := by
  obtain ⟨_, kvs, hp, r⟩ := m
  have hv := r.val (k := k) fI_inj
  exact ⟨_, DGet.k (k := .inl k) hp, hv.1, hv.2⟩
theorem MuT.get (w : Ex B H) (m : MuT K B H p dt) {a b : Int} (ru : Rep K B u (.pr a b)) : ∃ o, DGet H p u o ∧ (∀ d, getA dt (a, b) = some d → ∃ v, o = some v ∧ Rep K B v d) ∧ (getA dt (a, b) = none → o = none) := by
  obtain ⟨_, kvs, hp, r⟩ := m
  obtain ⟨q, rfl, hq⟩ := ru.prH w
  have hv := r.val (k := (a, b)) fP_inj
  exact ⟨_, DGet.t (k := fP (a, b)) hp hq, hv.1, hv.2⟩
theorem get_some {o : Option V} {g : Option D} {d : D} (h : ∀ d, g = some d → ∃ v, o = some v ∧ Rep K B v d) (e : g = some d) : ∃ v, o = some v ∧ Rep K B v d := h d e
theorem h_dgetK {α : Type} [Enc α] {l : List (Int × α)} {k : Int} {x : α} (m : MuK K B H p (encA l)) (e : getA l k = some x) (h : ∀ u, Rep K B u (enc x) → Q u H) : rDGet (.ref p) (.int k) H Q := by
  obtain ⟨o, g, h1, _⟩ := m.get (k := k)
  obtain ⟨v, rfl, r⟩ := h1 (enc x) (by rw [getA_enc, e]; rfl)
  exact ⟨p, v, rfl, g, h v r⟩
theorem h_dgetT {α : Type} [Enc α] {l : List ((Int × Int) × α)} {k : Int × Int} {x : α} (w : Ex B H) (m : MuT K B H p (encA l)) (ru : Rep K B u (enc k)) (e : getA l k = some x) (h : ∀ u, Rep K B u (enc x) → Q u H) : rDGet (.ref p) u H Q := by
  obtain ⟨o, g, h1, _⟩ := m.get w (a := k.1) (b := k.2) ru
  obtain ⟨v, rfl, r⟩ := h1 (enc x) (by rw [show (k.1, k.2) = k from rfl, getA_enc, e]; rfl)
  exact ⟨p, v, rfl, g, h v r⟩
theorem isSome_of {o : Option V} {α : Type} [Enc α] {g : Option α} (h1 : ∀ d, g.map enc = some d → ∃ v, o = some v ∧ Rep K B v d) (h2 : g.map enc = none → o = none) : o.isSome = g.isSome := by
  cases g with
  | none => rw [h2 rfl]; rfl
  | some x => obtain ⟨v, e, _⟩ := h1 _ rfl; rw [e]; rfl
theorem h_dinK {α : Type} [Enc α] {l : List (Int × α)} {k : Int} {n : Bool} (m : MuK K B H p (encA l)) (h : Q (.bl (hasA l k != n)) H) : rDIn n (.int k) (.ref p) H Q := by
  obtain ⟨o, g, h1, h2⟩ := m.get (k := k)
  rw [getA_enc] at h1 h2
  exact ⟨p, o, rfl, g, by rw [isSome_of h1 h2]; exact h⟩
theorem h_dinT {α : Type} [Enc α] {l : List ((Int × Int) × α)} {k : Int × Int} {n : Bool} (w : Ex B H) (m : MuT K B H p (encA l)) (ru : Rep K B u (enc k)) (h : Q (.bl (hasA l k != n)) H) : rDIn n u (.ref p) H Q := by
  obtain ⟨o, g, h1, h2⟩ := m.get w (a := k.1) (b := k.2) ru
  rw [show (k.1, k.2) = k from rfl, getA_enc] at h1 h2
  exact ⟨p, o, rfl, g, by rw [isSome_of h1 h2]; exact h⟩
theorem getD_of {o : Option V} {α : Type} [Enc α] {g : Option α} (h1 : ∀ d, g.map enc = some d → ∃ v, o = some v ∧ Rep K B v d) (h2 : g.map enc = none → o = none) : Rep K B (o.getD .non) (enc g) := by
  cases g with
  | none => rw [h2 rfl]; exact .non
  | some x => obtain ⟨v, e, r⟩ := h1 _ rfl; rw [e]; exact r
theorem h_dget1E (h : td σ H fun x H1 => ∃ a, x = .ref a ∧ IsD H1 a ∧ ty σ H1 fun y H2 => rDGet1 a y H2 Q) : tDGet1 td ty σ H Q := by
  exact h
theorem h_dget1K {α : Type} [Enc α] {l : List (Int × α)} {k : Int} (m : MuK K B H p (encA l)) (h : ∀ u, Rep K B u (enc (getA l k)) → Q u H) : rDGet1 p (.int k) H Q := by
  obtain ⟨o, g, h1, h2⟩ := m.get (k := k)
  rw [getA_enc] at h1 h2
  exact ⟨o, g, h _ (getD_of h1 h2)⟩
def rDPut : V → V → V → Hp → (Hp → Prop) → Prop := fun v x y H Q => ∃ a H4, x = .ref a ∧ DPut H a y v H4 ∧ Q H4
theorem h_dputE (h : tv σ H fun v H1 => td σ H1 fun x H2 => ty σ H2 fun y H3 => rDPut v x y H3 (D'.nx σ)) : sDPut td ty tv D' σ H := h
theorem h_dputT {α : Type} [Enc α] {l : List ((Int × Int) × α)} {k : Int × Int} {x : α} {N : Hp → Prop} (w : Ex B H) (m : MuT K B H p (encA l)) (rv : Rep K B v (enc x)) (ru : Rep K B u (enc k)) (hl : l.length < 1000000) (h : ∀ H', Stp [p] B H B H' → MuT K B H' p (encA (putA l k x)) → N H') : rDPut v (.ref p) u H N := by
  obtain ⟨hb, kvs, hp, r⟩ := m
  obtain ⟨q, rfl, hq⟩ := Rep.prH (a := k.1) (b := k.2) w ru
  have hz : kvs.length < sizeLine := by
    rw [r.length]
    unfold encA
    rw [List.length_map, sizeLine_eq]
    omega
  refine ⟨p, _, rfl, DPut.t (k := fP k) hp hq hz, h _ (Stp.set w (by simp) hb hp) ⟨hb, _, upd_same, ?_⟩⟩
  rw [← putA_enc]
  exact r.put fP_inj rv
theorem h_nwP {a b : Int} (w : Ex B H) (h : ∀ p B' H', Stp [] B H B' H' → Rep K B' (.ref p) (enc ((a, b) : Int × Int)) → Q (.ref p) H') : NwT [.int a, .int b] H Q :=
  fun p hp => h p _ _ (Stp.new w hp) (.pr upd_same)
theorem Rep.prT {a b : Int} (r : Rep K B v (enc ((a, b) : Int × Int))) : Rep K B v (enc (⟨a, b⟩ : Tp2 Int Int)) := by
  cases r with
  | pr h => exact .tup (SqT.of h) (.cons (.int a) (.cons (.int b) .nil))
theorem know (w : Ex B H) {b : Addr} {ys : List V} (h : H b = some (.tup ys)) : ∃ B', Stp [] B H B' H ∧ B' b = some (.tup ys) := by
  cases e : B b with
  | some o =>
    have := w b o e
    rw [h] at this
    cases this
    exact ⟨B, Stp.refl w, e⟩
  | none =>
    refine ⟨upd B b (.tup ys), ⟨Ex.new e, fun x o hx => ?_, fun _ _ _ z => z, Al.refl H, fun x o ht hb hx => ?_⟩, upd_same⟩
    · by_cases c : x = b
      · rw [c, upd_same] at hx; cases hx; rw [c]; exact h
      · rw [upd_ne c] at hx; exact w x o hx
    · by_cases c : x = b
      · rw [c, h] at hx; cases hx; exact nomatch ht
      · rw [upd_ne c]; exact hb
theorem know_keys : ∀ {kvs : List (List Key × V)} {dt : List ((Int × Int) × D)} {bs : List Addr} {B : Hp}, Ex B H → RepA fP K B kvs dt → IsKeys H kvs bs → ∃ B', Stp [] B H B' H ∧ RepL K B' (bs.map V.ref) ((dt.map (·.1)).map enc)
  | _, _, _, B, w, .nil, .nil => ⟨B, Stp.refl w, .nil⟩
  | _, _, _, B, w, .cons h t, .cons hk tk => by
    obtain ⟨B1, s1, e1⟩ := know w hk
    obtain ⟨B2, s2, r2⟩ := know_keys s1.ok (t.mono s1.ex) tk
    exact ⟨B2, s1.trans s2, .cons (.pr (s2.ex _ _ e1)) r2⟩
def rListT : List V → Hp → VK → Prop := fun xs H Q => ∃ d kvs, xs = [V.ref d] ∧ Rd H d (.dT kvs) ∧ ∀ p bs, H p = none → IsKeys H kvs bs → Q (.ref p) (upd H p (.lst (bs.map V.ref)))
theorem cr_listT {X : Cx} (hc : X.calm = true) : CallR X (.type "list") rListT := call_list_dT hc
theorem h_listDT {α : Type} [Enc α] {l : List ((Int × Int) × α)} (w : Ex B H) (m : MuT K B H p (encA l)) (h : ∀ q B' H', H q = none → Stp [] B H B' H' → Mu K B' H' q ((l.map (·.1)).map enc) → Q (.ref q) H') : rListT [V.ref p] H Q := by
  obtain ⟨hb, kvs, hp, r⟩ := m
  refine ⟨p, kvs, rfl, .inl hp, fun q bs hq ik => ?_⟩
  obtain ⟨B1, s1, r1⟩ := know_keys w r ik
  have e : (encA l).map (·.1) = l.map (·.1) := by unfold encA; rw [List.map_map]; rfl
  rw [e] at r1
  exact h q B1 _ hq (s1.trans (Stp.newM s1.ok hq)) (Mu.new s1.ok hq r1)
theorem cr_listK {X : Cx} (hc : X.calm = true) : CallR X (.type "list") rListD := call_list_dK hc
theorem h_listDK {α : Type} [Enc α] {l : List (Int × α)} (w : Ex B H) (m : MuK K B H p (encA l)) (h : ∀ q H', H q = none → Stp [] B H B H' → Mu K B H' q ((l.map (·.1)).map enc) → Q (.ref q) H') : rListD [V.ref p] H Q := by
  obtain ⟨hb, kvs, hp, r⟩ := m
  refine ⟨p, kvs, rfl, hp, fun q hq => h q _ hq (Stp.newM w hq) (Mu.new w hq ?_)⟩
  have e : ∀ {kvs : List (Key × V)} {ds : List (Int × D)}, RepA fI K B kvs ds → RepL K B (kvs.map fun kv => kV kv.1) ((ds.map (·.1)).map enc) := by
    intro kvs ds r
    induction r with
    | nil => exact .nil
    | cons h t ih => exact .cons (.int _) ih
  have e2 : (encA l).map (·.1) = l.map (·.1) := by unfold encA; rw [List.map_map]; rfl
  rw [← e2]
  exact e r
end
def LkK (K : PySem.W.Frag) (B H : Hp) (p : Addr) (od : Obj) (kvs : List (Key × V)) (ds : List (Int × D)) : Prop := B p = none ∧ H p = some (.frz od (.dK kvs)) ∧ RepA fI K B kvs ds
def LkT (K : PySem.W.Frag) (B H : Hp) (p : Addr) (od : Obj) (kvs : List (List Key × V)) (ds : List ((Int × Int) × D)) : Prop := B p = none ∧ H p = some (.frz od (.dT kvs)) ∧ RepA fP K B kvs ds
section
variable {K : PySem.W.Frag} {B B' H H' : Hp} {W : List Addr} {p q : Addr} {ds : List (Int × D)} {dt : List ((Int × Int) × D)} {v u : V} {d : D} {Q : VK} {σ : L2.St} {td ty tv : TE} {D' : Ends} {xs : List V} {od : Obj} {kk : List (Key × V)} {kt : List (List Key × V)} {g : TG} {tt : TT} {te : TE} {tb : TS}
theorem LkK.step (m : LkK K B H p od kk ds) (s : Stp W B H B' H') (h : p ∉ W) : LkK K B' H' p od kk ds := ⟨s.nw p _ rfl m.1 m.2.1, s.fr p _ h m.2.1, m.2.2.mono s.ex⟩
theorem LkK.ne (m : LkK K B H p od kk ds) (h : H q = none) : p ≠ q := ne_of_none m.2.1 h
theorem LkT.step (m : LkT K B H p od kt dt) (s : Stp W B H B' H') (h : p ∉ W) : LkT K B' H' p od kt dt := ⟨s.nw p _ rfl m.1 m.2.1, s.fr p _ h m.2.1, m.2.2.mono s.ex⟩
theorem LkT.ne (m : LkT K B H p od kt dt) (h : H q = none) : p ≠ q := ne_of_none m.2.1 h
theorem h_lockT {t : TE} (w : Ex B H) (m : MuT K B H p dt) (h : ∀ od kvs H1, Stp [p] B H B H1 → LkT K B H1 p od kvs dt → t σ H1 fun v H' => H' p = some (.frz od (.dT kvs)) ∧ Q v (upd H' p (.dT kvs))) : tLockE t σ H Q := by
  obtain ⟨hb, kvs, hp, r⟩ := m
  exact ⟨p, .dT kvs, hp, True.intro, fun od => h od kvs _ (Stp.set w (by simp) hb hp) ⟨hb, upd_same, r⟩⟩
theorem LkK.un {N : Hp → Prop} (w : Ex B H) (m : LkK K B H p od kk ds) (h : ∀ H1, Stp [p] B H B H1 → MuK K B H1 p ds → N H1) : H p = some (.frz od (.dK kk)) ∧ N (upd H p (.dK kk)) :=
  ⟨m.2.1, h _ (Stp.set w (by simp) m.1 m.2.1) ⟨m.1, kk, upd_same, m.2.2⟩⟩
theorem LkT.un {N : Hp → Prop} (w : Ex B H) (m : LkT K B H p od kt dt) (h : ∀ H1, Stp [p] B H B H1 → MuT K B H1 p dt → N H1) : H p = some (.frz od (.dT kt)) ∧ N (upd H p (.dT kt)) :=
  ⟨m.2.1, h _ (Stp.set w (by simp) m.1 m.2.1) ⟨m.1, kt, upd_same, m.2.2⟩⟩
theorem RepA.keys {κ κ' : Type} {f : κ → κ'} {kvs : List (κ' × V)} {l : List (κ × D)} (r : RepA f K B kvs l) {i : Nat} {k : κ'} {v : V} (e : kvs[i]? = some (k, v)) : ∃ k0 d, l[i]? = some (k0, d) ∧ k = f k0 ∧ Rep K B v d := by
  induction r generalizing i with
  | nil => simp at e
  | @cons k0 v0 d0 vs ds h t ih =>
    cases i with
    | zero => cases e; exact ⟨k0, d0, rfl, rfl, h⟩
    | succ i => exact ih (i := i) (by simpa using e)
end
section
variable {K : PySem.W.Frag} {B B' H H' : Hp} {W : List Addr} {p q : Addr} {v u : V} {d : D} {Q : VK} {σ : L2.St} {D' : Ends} {xs : List V} {od : Obj} {g : TG} {tt : TT} {te : TE} {tb : TS}
variable {α β S R' : Type} {P : β → Prop} {R : Err → Prop}
def LcKT (v : V) (g : TG) (tt : TT) (te : TE) (vs : List Nat) (σ : L2.St) (H : Hp) (Q : VK) : Prop := tLc (iKeys (tC v)) g tt te vs σ H Q
theorem h_lcKE {vs : List Nat} {tl : TE} (h : tl σ H fun x H1 => LcKT x g tt te vs σ H1 Q) : tLc (iKeys tl) g tt te vs σ H Q := h
theorem h_lcKT {kvs : List (List Key × V)} {l : List ((Int × Int) × D)} {s0 : S} {f : Int × Int → S → Res (Option R' × S)} {k : List R' × S → Res β} {vs : List Nat} (hP : Post ((compR (l.map (·.1)) s0 f).bind k) P R) (hd0 : H p = some (.frz od (.dT kvs))) (hr : RepA fP K B kvs l)
    (J : Addr → List R' → S → Hp → Prop) (h0 : ∀ Dl, H Dl = none → J Dl [] s0 (upd H Dl (.lst []))) (hl : ∀ Dl acc s H', J Dl acc s H' → H' p = some (.frz od (.dT kvs)))
    (hb : ∀ (Dl : Addr) (N : Hp → Prop) (T : Option R' × S → Prop) (x : Int × Int) q acc s H', J Dl acc s H' → H' q = some (.tup [.int x.1, .int x.2]) → acc.length < sizeLine → (∀ b s' H2, J Dl (acc ++ [b]) s' H2 → T (some b, s') → N H2) → (∀ s' H2, J Dl acc s' H2 → T (none, s') → N H2) → Post (f x s) T R →
      g (.ref q) (wipe σ vs) H' (LcT σ vs tt te Dl N))
    (hd : ∀ Dl acc s H', J Dl acc s H' → Post (k (acc, s)) P R → Q (.ref Dl) H') : LcKT (.ref p) g tt te vs σ H Q := by
  refine ⟨p, od, rfl, .inr ⟨kvs, hd0, fun Dl hD => ?_⟩⟩
  unfold compR at hP
  have hz : (l.map (·.1)).length ≤ 1000000 := by
    by_cases c : (l.map (·.1)).length ≤ 1000000
    · exact c
    · unfold guardR at hP; rw [if_neg c] at hP; exact hP.elim
  unfold guardR at hP
  rw [if_pos hz] at hP
  have hn := hr.length
  refine lc_it walk_keysT (fun i H' => ∃ acc s, J Dl acc s H' ∧ acc.length ≤ i ∧ Post ((compL ((l.map (·.1)).drop i) s f).bind fun q => k (acc ++ q.1, q.2)) P R) ⟨[], s0, h0 Dl hD, Nat.le_refl _, hP⟩ (fun i H' _ ⟨acc, s, j, _⟩ => hl Dl acc s H' j) ?_ ?_
  · rintro i y H0 H' hi ⟨acc, s, j, hn', q⟩ ⟨rfl, ky, vy, qy, e1, rfl, e2⟩
    obtain ⟨k0, d0, e3, rfl, _⟩ := hr.keys e1
    have hx : (l.map (·.1))[i]? = some k0 := by rw [List.getElem?_map, e3]; rfl
    have h1 : i < (l.map (·.1)).length := (List.getElem?_eq_some_iff.mp hx).1
    exact hb Dl _ _ k0 qy acc s H' j e2 (Nat.lt_of_le_of_lt (Nat.le_trans hn' (Nat.le_trans (Nat.le_of_lt h1) hz)) (by decide)) (fun b s' H2 j2 t2 => ⟨acc ++ [b], s', j2, by rw [List.length_append]; exact Nat.succ_le_succ hn', t2⟩) (fun s' H2 j2 t2 => ⟨acc, s', j2, Nat.le_succ_of_le hn', t2⟩) (q.compS hx)
  · rintro H' ⟨acc, s, j, _, q⟩
    rw [hn, List.drop_eq_nil_of_le (by rw [List.length_map]; exact Nat.le_refl _)] at q
    have q2 : Post (k (acc ++ [], s)) P R := q
    rw [List.append_nil] at q2
    exact hd Dl acc s H' j q2
end
theorem perm_uniq {α : Type} {le : α → α → Prop} (anti : ∀ a b, le a b → le b a → a = b) : ∀ {l m : List α}, l.Perm m → l.Pairwise le → m.Pairwise le → l = m
  | [], m, h, _, _ => h.nil_eq
  | a :: l, [], h, _, _ => absurd h.length_eq (by simp)
  | a :: l, b :: m, h, hl, hm => by
    have hl' := List.pairwise_cons.mp hl
    have hm' := List.pairwise_cons.mp hm
    have e : a = b := by
      rcases List.mem_cons.mp (h.mem_iff.mp (List.mem_cons_self (a := a) (l := l))) with e | ma
      · exact e
      · rcases List.mem_cons.mp (h.mem_iff.mpr (List.mem_cons_self (a := b) (l := m))) with e | mb
        · exact e.symm
        · exact anti a b (hl'.1 b mb) (hm'.1 a ma)
    subst e
    rw [perm_uniq anti h.cons_inv hl'.2 hm'.2]
def sortI (l : List Int) : List Int := l.mergeSort fun a b => decide (a ≤ b)
def leP (a b : Int × Int) : Bool := !SrtO.lexB b a
def sortP (l : List (Int × Int)) : List (Int × Int) := l.mergeSort leP
theorem sortI_perm (l : List Int) : (sortI l).Perm l := List.mergeSort_perm ..
theorem sortI_pw (l : List Int) : (sortI l).Pairwise (· ≤ ·) := by
  have := List.pairwise_mergeSort (le := fun a b : Int => decide (a ≤ b)) (fun a b c h1 h2 => decide_eq_true (Int.le_trans (of_decide_eq_true h1) (of_decide_eq_true h2))) (fun a b => by
    rw [Bool.or_eq_true, decide_eq_true_iff, decide_eq_true_iff]
    omega) l
  exact this.imp fun h => of_decide_eq_true h
theorem leP_iff {a b : Int × Int} : leP a b = true ↔ a.1 < b.1 ∨ (a.1 = b.1 ∧ a.2 ≤ b.2) := by
  unfold leP
  rw [Bool.not_eq_true', SrtO.lexB_no]
  omega
theorem sortP_perm (l : List (Int × Int)) : (sortP l).Perm l := List.mergeSort_perm ..
theorem sortP_pw (l : List (Int × Int)) : (sortP l).Pairwise fun a b => leP a b = true :=
  List.pairwise_mergeSort (le := leP) (fun a b c h1 h2 => by rw [leP_iff] at *; omega) (fun a b => by rw [Bool.or_eq_true, leP_iff, leP_iff]; omega) l
theorem leP_anti (a b : Int × Int) (h1 : leP a b = true) (h2 : leP b a = true) : a = b := by
  rw [leP_iff] at h1 h2
  exact Prod.ext (by omega) (by omega)
section
variable {K : PySem.W.Frag} {B B' H H' : Hp} {p q : Addr} {Q : VK} {xs : List V}
theorem h_sortI {l : List Int} (w : Ex B H) (s : SqL K H p xs) (r : RepL K B xs (l.map enc)) (h : ∀ q H', H q = none → Stp [] B H B H' → Mu K B H' q ((sortI l).map enc) → Q (.ref q) H') : rSortedI K [V.ref p] H Q := by
  have e : xs = l.map V.int := r.of_ints
  subst e
  refine ⟨p, l, rfl, s, fun ns' q hp hs hq => ?_⟩
  have e : ns' = sortI l := perm_uniq (le := (· ≤ ·)) (fun a b h1 h2 => Int.le_antisymm h1 h2) (hp.trans (sortI_perm l).symm) hs (sortI_pw l)
  subst e
  exact h q _ hq (Stp.newM w hq) (Mu.new w hq (RepL.ints _))
def kOf (H : Hp) (x : V) : Int × Int := match x with
  | .ref t => (match H t with | some (.tup [.int a, .int b]) => (a, b) | _ => (0, 0))
  | _ => (0, 0)
theorem RepL.pairs (w : Ex B H) : ∀ {xs : List V} {l : List (Int × Int)}, RepL K B xs (l.map enc) → xs.map (kOf H) = l ∧ ∀ x ∈ xs, Rep K B x (enc (kOf H x)) ∧ ∃ t, x = V.ref t ∧ H t = some (.tup [.int (kOf H x).1, .int (kOf H x).2])
  | [], [], _ => ⟨rfl, fun _ m => nomatch m⟩
  | _ :: _, [], r => nomatch r
  | [], _ :: _, r => nomatch r
  | x :: xs, k :: l, r => by
    cases r with
    | cons h t =>
      obtain ⟨e, hx⟩ := RepL.pairs w t
      have h' : Rep K B x (.pr k.1 k.2) := h
      cases h' with
      | @pr p a b hp =>
        have hk : kOf H (.ref p) = k := by
          show (match H p with | some (.tup [.int a, .int b]) => (a, b) | _ => (0, 0)) = k
          rw [w _ _ hp]
        refine ⟨by rw [List.map_cons, e, hk], fun y m => ?_⟩
        rcases List.mem_cons.mp m with rfl | m
        · rw [hk]; exact ⟨h, p, rfl, w _ _ hp⟩
        · exact hx y m
theorem RepL.of_all {α : Type} [Enc α] {k : V → α} : ∀ {ys : List V}, (∀ y ∈ ys, Rep K B y (enc (k y))) → RepL K B ys ((ys.map k).map enc)
  | [], _ => .nil
  | y :: ys, h => .cons (h y List.mem_cons_self) (RepL.of_all fun z m => h z (List.mem_cons_of_mem _ m))
theorem h_sortP {l : List (Int × Int)} (w : Ex B H) (s : SqL K H p xs) (r : RepL K B xs (l.map enc)) (h : ∀ q H', H q = none → Stp [] B H B H' → Mu K B H' q ((sortP l).map enc) → Q (.ref q) H') : rSortedPO K [V.ref p] H Q := by
  obtain ⟨e, hx⟩ := r.pairs w
  refine ⟨p, xs, kOf H, rfl, s, fun x m => (hx x m).2, fun ys q hs hb hq => ?_⟩
  have e2 : ys.map (kOf H) = sortP l := by
    refine perm_uniq leP_anti ((hb.perm.map _).trans (by rw [e]; exact (sortP_perm l).symm)) (List.pairwise_map.mpr (hs.imp fun {x y} hxy => ?_)) (sortP_pw l)
    unfold leP
    rw [show SrtO.lexB (kOf H y) (kOf H x) = false from hxy]
    rfl
  have r2 := RepL.of_all (K := K) (B := B) (k := kOf H) (ys := ys) fun y m => (hx y (hb.perm.mem_iff.mp m)).1
  rw [e2] at r2
  exact h q _ hq (Stp.newM w hq) (Mu.new w hq r2)
end
def mergeA {κ α : Type} [DecidableEq κ] (acc more : List (κ × α)) : List (κ × α) := more.foldl (fun a kv => putA a kv.1 kv.2) acc
theorem mergeA_enc {κ α : Type} [DecidableEq κ] [Enc α] : ∀ {more acc : List (κ × α)}, mergeA (encA acc) (encA more) = encA (mergeA acc more)
  | [], acc => rfl
  | kv :: more, acc => by
    show mergeA (putA (encA acc) kv.1 (enc kv.2)) (encA more) = encA (mergeA (putA acc kv.1 kv.2) more)
    rw [putA_enc, mergeA_enc]
def prsA {α : Type} (l : List (Tp2 Int α)) : List (Int × α) := l.map fun t => (t.a, t.b)
section
variable {K : PySem.W.Frag} {B B' H H' : Hp} {p q : Addr} {Q : VK} {xs : List V}
theorem RepA.merge : ∀ {more : List (Key × V)} {md : List (Int × D)} {kvs : List (Key × V)} {ds : List (Int × D)}, RepA fI K B more md → RepA fI K B kvs ds → RepA fI K B (mergeK kvs more) (mergeA ds md)
  | _, _, _, _, .nil, r => r
  | _, _, kvs, ds, .cons (k := k) (v := v) (d := d) (vs := vs) (ds := ds') h t, r => RepA.merge (more := vs) (md := ds') (kvs := putK kvs (fI k) v) (ds := putA ds k d) t (r.put fI_inj h)
theorem pairs_A {α : Type} [Enc α] (w : Ex B H) : ∀ {xs : List V} {l : List (Tp2 Int α)}, RepL K B xs (l.map enc) → ∃ (ps : List Addr) (kvs : List (Key × V)), xs = ps.map V.ref ∧ Paired (fun p (kv : Key × V) => SqT K H p [kV kv.1, kv.2]) ps kvs ∧ RepA fI K B kvs (encA (prsA l))
  | [], [], _ => ⟨[], [], rfl, .nil, .nil⟩
  | _ :: _, [], r => nomatch r
  | [], _ :: _, r => nomatch r
  | v :: vs, t :: l, r => by
    cases r with
    | cons h q =>
      obtain ⟨ps, kvs, e, pr, ra⟩ := pairs_A w q
      obtain ⟨p, ys, rfl, hs, hr⟩ := Rep.st w (show Rep K B v (.tup [enc t.a, enc t.b]) from h)
      cases hr with
      | cons h1 t1 =>
        cases t1 with
        | @cons v2 _ _ _ h2 t2 =>
          cases t2
          cases h1
          exact ⟨p :: ps, (.inl t.a, v2) :: kvs, by rw [e]; rfl, .cons hs pr, .cons h2 ra⟩
theorem h_dictA {α : Type} [Enc α] {l : List (Tp2 Int α)} (w : Ex B H) (s : SqL K H p xs) (r : RepL K B xs (l.map enc)) (h : ∀ q H', H q = none → Stp [] B H B H' → MuK K B H' q (encA (mergeA [] (prsA l))) → Q (.ref q) H') : rDictP K [.ref p] H Q := by
  obtain ⟨ps, kvs, e, pr, ra⟩ := pairs_A w r
  subst e
  refine ⟨p, ps, kvs, rfl, s, pr, fun q hq => h q _ hq (Stp.newM w hq) ⟨w.none hq, _, upd_same, ?_⟩⟩
  have := RepA.merge ra (RepA.nil (f := fI) (K := K) (B := B))
  have e : mergeA [] (encA (prsA l)) = encA (mergeA [] (prsA l)) := mergeA_enc (acc := [])
  rw [e] at this
  exact this
end
end Y

namespace L2
open PySem PySem.Spec PyProof.Rows
section
variable {prog : Program} {w : World} {A : Around} {E : Value → Shared → Prop}
def mergedH (xs : List (List Key × Addr × Value)) (more : List (List Key × Addr × Value)) : List (List Key × Addr × Value) := more.foldl (fun a x => storedH a x.1 x.2.1 x.2.2) xs
end
section
variable {X : Cx}
def mergeKT (kvs more : List (List Key × V)) : List (List Key × V) := more.foldl (fun acc kv => putK acc kv.1 kv.2) kvs
theorem KT.merge {H : Hp} : ∀ {more : List (List Key × V)} {prs : List (List Key × Addr × Value)} {kvs : List (List Key × V)} {xs : List (List Key × Addr × Value)}, KT H more prs → KT H kvs xs → KT H (mergeKT kvs more) (mergedH xs prs)
  | _, _, _, _, .nil, r => r
  | _, _, kvs, xs, @Paired.cons _ _ _ a b l1 l2 h t, r => by
    have e : KT H (putK kvs a.1 a.2) (storedH xs b.1 b.2.1 b.2.2) := by
      have := r.put a.1 h.2.1 h.2.2
      rw [← h.1]
      exact this
    exact KT.merge (more := l1) (prs := l2) (kvs := putK kvs a.1 a.2) (xs := storedH xs b.1 b.2.1 b.2.2) t e
end
end L2
namespace Y
open PySem PySem.Spec PyProof.Rows
open L2
open Enc (enc)
section
variable {K : PySem.W.Frag} {B B' H H' : Hp} {p q : Addr} {Q : VK} {xs : List V}
end
section
variable {K : PySem.W.Frag} {B B' H H' : Hp} {p q : Addr} {Q : VK} {xs : List V} {X : Cx}
theorem h_newP {a b : Int} (w : Ex B H) (h : ∀ p B' H', Stp [] B H B' H' → Rep K B' (.ref p) (enc ((a, b) : Int × Int)) → Q (.ref p) H') : NewT [.int a, .int b] H Q := ⟨by show 2 ≤ sizeLine; decide, h_nwP w h⟩
theorem op_din (hu : X.A.units + 64 < cLine) : OpR X (compareOp .In) (rDIn false) := by
  intro pins s σ H y x v u Q I ry rx h
  obtain ⟨a, o, rfl, g, q⟩ := h
  cases rx
  refine d_in (Nat.lt_of_le_of_lt (Nat.add_le_add_left (by decide) _) hu) I g ry fun s' I' => ⟨.bl o.isSome, H, I', rfl, ?_⟩
  rw [Bool.bne_false] at q
  exact q
theorem op_dnin (hu : X.A.units + 64 < cLine) : OpR X (compareOp .NotIn) (rDIn true) := by
  intro pins s σ H y x v u Q I ry rx h
  obtain ⟨a, o, rfl, g, q⟩ := h
  cases rx
  refine d_notIn (Nat.lt_of_le_of_lt (Nat.add_le_add_left (by decide) _) hu) I g ry fun s' I' => ⟨.bl (!o.isSome), H, I', rfl, ?_⟩
  rw [Bool.bne_true] at q
  exact q
theorem hu1 {n : Nat} (h : n + 64 < cLine) : n + 1 < cLine := Nat.lt_of_le_of_lt (Nat.add_le_add_left (by decide) _) h
def RetDT (K : PySem.W.Frag) (B H : Hp) (ds : List ((Int × Int) × D)) (Q : VK) : Prop := ∀ p B' H', Stp [] B H B' H' → H p = none → MuT K B' H' p ds → Q (.ref p) H'
theorem neKT {ds : List (Int × D)} {dt : List ((Int × Int) × D)} (a : MuK K B H p ds) (b : MuT K B H q dt) : p ≠ q := by
  obtain ⟨_, _, h1, _⟩ := a
  obtain ⟨_, _, h2, _⟩ := b
  intro e
  rw [e, h2] at h1
  cases h1
theorem MuK.kp {r : Addr} {ds : List (Int × D)} (m : MuK K B H q ds) (e : Ex B B') (k : ∀ q, q ≠ r → B q = none → B' q = none) (n : q ≠ r) : MuK K B' H q ds := by
  obtain ⟨hb, kvs, hp, x⟩ := m
  exact ⟨k q n hb, kvs, hp, x.mono e⟩
theorem MuT.kp {r : Addr} {ds : List ((Int × Int) × D)} (m : MuT K B H q ds) (e : Ex B B') (k : ∀ q, q ≠ r → B q = none → B' q = none) (n : q ≠ r) : MuT K B' H q ds := by
  obtain ⟨hb, kvs, hp, x⟩ := m
  exact ⟨k q n hb, kvs, hp, x.mono e⟩
theorem LkK.kp {r : Addr} {od : Obj} {kvs : List (Key × V)} {ds : List (Int × D)} (m : LkK K B H q od kvs ds) (e : Ex B B') (k : ∀ q, q ≠ r → B q = none → B' q = none) (n : q ≠ r) : LkK K B' H q od kvs ds := ⟨k q n m.1, m.2.1, m.2.2.mono e⟩
theorem LkT.kp {r : Addr} {od : Obj} {kvs : List (List Key × V)} {ds : List ((Int × Int) × D)} (m : LkT K B H q od kvs ds) (e : Ex B B') (k : ∀ q, q ≠ r → B q = none → B' q = none) (n : q ≠ r) : LkT K B' H q od kvs ds := ⟨k q n m.1, m.2.1, m.2.2.mono e⟩
end
end Y

set_option maxHeartbeats 3200000
namespace L2
open PySem PySem.Spec PyProof.Rows
section
variable {P : Program} {w : World} {A : Around} {E : Value → Shared → Prop} {s : Shared}
end
section
variable {X : Cx}
end
end L2

set_option maxHeartbeats 2000000
namespace Y
open PySem PySem.Spec PyProof.Rows
open L2
open Enc (enc)
theorem pw_lt : ∀ {l : List Int}, l.Pairwise (· ≤ ·) → l.Nodup → l.Pairwise (· < ·)
  | [], _, _ => List.Pairwise.nil
  | a :: l, h, n => by
    have h' := List.pairwise_cons.mp h
    have n' := List.nodup_cons.mp n
    refine List.pairwise_cons.mpr ⟨fun b m => ?_, pw_lt h'.2 n'.2⟩
    have h1 := h'.1 b m
    have h2 : a ≠ b := fun e => n'.1 (e ▸ m)
    omega
theorem lt_uniq : ∀ {l m : List Int}, l.Pairwise (· < ·) → m.Pairwise (· < ·) → (∀ k, k ∈ l ↔ k ∈ m) → l = m
  | [], [], _, _, _ => rfl
  | [], b :: m, _, _, h => absurd ((h b).mpr List.mem_cons_self) (fun z => nomatch z)
  | a :: l, [], _, _, h => absurd ((h a).mp List.mem_cons_self) (fun z => nomatch z)
  | a :: l, b :: m, hl, hm, h => by
    have hl' := List.pairwise_cons.mp hl
    have hm' := List.pairwise_cons.mp hm
    have e : a = b := by
      rcases List.mem_cons.mp ((h a).mp List.mem_cons_self) with e | ma
      · exact e
      · rcases List.mem_cons.mp ((h b).mpr List.mem_cons_self) with e | mb
        · exact e.symm
        · have := hl'.1 b mb
          have := hm'.1 a ma
          omega
    subst e
    rw [lt_uniq hl'.2 hm'.2 fun k => ?_]
    constructor
    · intro mk
      rcases List.mem_cons.mp ((h k).mp (List.mem_cons_of_mem _ mk)) with e | m'
      · have := hl'.1 k mk; omega
      · exact m'
    · intro mk
      rcases List.mem_cons.mp ((h k).mpr (List.mem_cons_of_mem _ mk)) with e | m'
      · have := hm'.1 k mk; omega
      · exact m'
section
variable {K : PySem.W.Frag} {B B' H H' : Hp} {p q : Addr} {Q : VK} {xs : List V} {wo : World}
end
end Y

namespace L2
open PySem PySem.Spec PyProof.Rows
section
variable {X : Cx} {tg e : Expr} {td : TE} {apos cpos : Pos}
end
end L2
namespace Y
open PySem PySem.Spec PyProof.Rows
open L2
open Enc (enc)
section
variable {K : PySem.W.Frag} {B B' H H' : Hp} {p q : Addr} {Q : VK} {σ : L2.St} {g : TG} {tt : TT} {te : TE}
variable {α β S R' : Type} {P : β → Prop} {R : Err → Prop}
theorem enc_keys {κ : Type} [Enc α] {l : List (κ × α)} : (encA l).map (·.1) = l.map (·.1) := by unfold encA; rw [List.map_map]; rfl
theorem h_lcKP [Enc α] {od : Obj} {kvs : List (List Key × V)} {l : List ((Int × Int) × α)} {s0 : S} {f : Int × Int → S → Res (Option R' × S)} {k : List R' × S → Res β} {vs : List Nat} (hP : Post ((compR (l.map (·.1)) s0 f).bind k) P R) (lk : LkT K B H p od kvs (encA l))
    (J : Addr → List R' → S → Hp → Prop) (h0 : ∀ Dl, H Dl = none → J Dl [] s0 (upd H Dl (.lst []))) (hl : ∀ Dl acc s H', J Dl acc s H' → H' p = some (.frz od (.dT kvs)))
    (hb : ∀ (Dl : Addr) (N : Hp → Prop) (T : Option R' × S → Prop) (x : Int × Int) q acc s H', J Dl acc s H' → H' q = some (.tup [.int x.1, .int x.2]) → acc.length < sizeLine → (∀ b s' H2, J Dl (acc ++ [b]) s' H2 → T (some b, s') → N H2) → (∀ s' H2, J Dl acc s' H2 → T (none, s') → N H2) → Post (f x s) T R →
      g (.ref q) (wipe σ vs) H' (LcT σ vs tt te Dl N))
    (hd : ∀ Dl acc s H', J Dl acc s H' → Post (k (acc, s)) P R → Q (.ref Dl) H') : LcKT (.ref p) g tt te vs σ H Q :=
  h_lcKT (l := encA l) (by rw [enc_keys]; exact hP) lk.2.1 lk.2.2 J h0 hl hb hd
theorem h_know {N : Prop} {a b : Int} (w : Ex B H) (h : H q = some (.tup [.int a, .int b])) (k : ∀ B', Stp [] B H B' H → Rep K B' (.ref q) (enc ((a, b) : Int × Int)) → N) : N := by
  obtain ⟨B', s, e⟩ := know w h
  exact k B' s (.pr e)
end
end Y

set_option maxHeartbeats 4000000
namespace Y
open PySem PySem.Spec PyProof.Rows
open L2
open Enc (enc)
theorem pe_fldK {X : Cx} {K : PySem.W.Frag} {e : Expr} {f : Str} {pos : Pos} {ta : TE} (hK : X.K = K) (he : PE X e ta) (hb : attributeBase e f X.env (eval e X.env) = eval e X.env) : PE X (.Attribute e f pos) (tFld K ta f) := by
  subst hK
  exact pe_fld he hb
end Y

set_option maxHeartbeats 2000000
namespace Y
open PySem PySem.Spec PyProof.Rows
open L2
open Enc (enc)
section
variable {K : PySem.W.Frag} {B B' H H' : Hp} {p q t : Addr} {α : Type} {vx : V}
theorem LkT.un2 {od : Obj} {kt : List (List Key × V)} {dt : List ((Int × Int) × D)} (w : Ex B H) (m : LkT K B H p od kt dt) : H p = some (.frz od (.dT kt)) ∧ Stp [p] B H B (upd H p (.dT kt)) ∧ MuT K B (upd H p (.dT kt)) p dt :=
  ⟨m.2.1, Stp.set w (by simp) m.1 m.2.1, ⟨m.1, kt, upd_same, m.2.2⟩⟩
end
end Y

set_option maxHeartbeats 1000000
namespace Y
open PySem PySem.Spec PyProof.Rows L2
open Enc (enc)
section
variable {K : PySem.W.Frag} {B H : Hp} {Q : VK} {σ : L2.St}
end
section
open PySem.W
variable {prog : Program} {w : World} {A : Around} {E : Value → Shared → Prop} {s : Shared} {K : PySem.W.Frag} {x y C L f : Addr} {h₀ : Heap} {m : Str → Option Value} {ox : Obj} {od : Option Obj} {tb : Value}
end
end Y

set_option maxHeartbeats 2000000
namespace L2
open PySem PySem.Spec PyProof.Rows
section
variable {P : Program} {w : World} {A : Around} {s : Shared} {E : Value → Shared → Prop} {a : Addr}
end
section
variable {X : Cx}
end
end L2
namespace Y
open PySem PySem.Spec PyProof.Rows
open L2
open Enc (enc)
section
variable {K : PySem.W.Frag} {B B' H H' : Hp} {p q : Addr} {Q : VK} {xs : List V} {wo : World}
theorem h_ninD {x y : V} {d : D} {es : List D} (w : Ex B H) (rx : Rep K B x d) (ry : Rep K B y (.lst es)) (o : okEq d (.lst es)) (h : Q (.bl (!inD d es)) H) : rNotInD K x y H Q := ⟨_, _, rx.dp w o.1, ry.dp w o.2.1, o.2.2.1, o.2.2.2, h⟩
end
def RetMD (K : PySem.W.Frag) (p : Addr) (B H : Hp) (d : D) (m : Hp → Hp → Prop) (Q : VK) : Prop := ∀ v B' H', Stp [p] B H B' H' → m B' H' → Rep K B' v d → Q v H'
def delA {κ α : Type} [DecidableEq κ] (l : List (κ × α)) (k : κ) : List (κ × α) := l.filter fun kv => decide (kv.1 ≠ k)
section
variable {κ κ' : Type} [DecidableEq κ] [DecidableEq κ'] {f : κ → κ'} {K : PySem.W.Frag} {B : Hp} {kvs : List (κ' × V)} {ds : List (κ × D)} {k : κ}
theorem RepA.del (hf : ∀ {a b}, f a = f b → a = b) (r : RepA f K B kvs ds) : RepA f K B (dropK kvs (f k)) (delA ds k) := by
  induction r with
  | nil => exact .nil
  | @cons k0 v0 d0 vs ds h t ih =>
    unfold dropK delA at ih ⊢
    by_cases c : k0 = k
    · rw [List.filter_cons_of_neg (by simp [c]), List.filter_cons_of_neg (by simp [c])]
      exact ih
    · rw [List.filter_cons_of_pos (by simpa using fun z => c (hf z)), List.filter_cons_of_pos (by simpa using c)]
      exact .cons h ih
end
section
variable {K : PySem.W.Frag} {B B' H H' : Hp} {p q : Addr} {v u : V} {d : D} {Q : VK} {σ : L2.St} {td ty te : TE}
end
end Y

set_option maxHeartbeats 4000000
namespace Y
open PySem PySem.Spec PyProof.Rows
open L2
open Enc (enc)
section
variable {X : Cx} {o e : Expr} {es : List Expr} {to : TE} {ta : TA} {C C2 : Addr} {mc : Value} {p apos pos : Pos} {f1 : Str} {K : PySem.W.Frag} {σ : L2.St} {H : Hp} {Q : VK}
def tryD {α β : Type} (m : Res α) (h : Err → Res β) (k : α → Res β) : Res β := match m with
  | .ok x => k x
  | .err e => h e
  | .stuck => .stuck
theorem Post.tryD {α β : Type} {m : Res α} {h : Err → Res β} {k : α → Res β} {P : β → Prop} {R : Err → Prop} (q : Post (Y.tryD m h k) P R) : Post m (fun x => Post (k x) P R) (fun e => Post (h e) P R) := by
  refine ⟨?_⟩
  cases m
  · exact q
  · exact q
  · exact q.h0
def spXi1 (K : PySem.W.Frag) (f1 : Str) : Sp := fun vs H Q _ => ∃ (a C : Addr) (v1 : V), vs = [.ref a, v1] ∧ OexC K C ∧ PySem.W.findIn K (.ref C) f1 = some none ∧ H a = some (exo a C none) ∧
  ∀ dx, H dx = none → dx ≠ a → Q .non (upd (upd H dx (exd dx [(f1, v1)])) a (exo a C (some dx)))
theorem h_ost1 {D' : Ends} {a : Addr} {v1 : V} {o1 e1 : TE} (ho1 : ∀ H Q, Q (.ref a) H → o1 σ H Q) (he1 : ∀ H Q, Q v1 H → e1 σ H Q)
    (T : OexC K C) (n1 : PySem.W.findIn K (.ref C) f1 = some none) (ea : H a = some (exo a C none))
    (h : ∀ dx, H dx = none → dx ≠ a → D'.nx σ (upd (upd H dx (exd dx [(f1, v1)])) a (exo a C (some dx)))) : tOst K f1 o1 e1 D' σ H :=
  he1 _ _ (ho1 _ _ ⟨a, C, rfl, T, n1, .inl ⟨ea, fun dx hn ne => h dx hn ne⟩⟩)
def tXk1 (C : Addr) (f1 : Str) (ta : TA) : L2.St → Hp → XK → Prop := fun σ H Q => ta σ H fun vs H1 => ∃ v1, vs = [v1] ∧ ∀ dx, H1 dx = none → Q (.ref C) (some dx) (upd H1 dx (.xd [(f1, v1)]))
structure ExcF1 (K : PySem.W.Frag) (C fI : Addr) (f1 : Str) : Prop where
  o : OexC K C
  iC : PySem.W.findIn K (.ref C) "__init__" = some (some (.ref fI))
  tI : PySem.W.typeIn K (.ref fI) = some (.type "function")
  n1 : PySem.W.findIn K (.ref C) f1 = some none
theorem xk_q1 {K : PySem.W.Frag} {fI : Addr} {vs : List V} {Q : XK} {H1 : Hp} {v1 : V} (T : ExcF1 K C fI f1) (ev : vs ++ [] = [v1]) (q : ∀ dx, H1 dx = none → Q (.ref C) (some dx) (upd H1 dx (.xd [(f1, v1)]))) (a : Addr) (fa : H1 a = none) :
    spXi1 K f1 (.ref a :: (vs ++ [])) (upd H1 a (exo a C none)) (fun v H2 => v = .non ∧ ∃ (d : Addr) (fs : List (Str × V)), H2 a = some (exo a C (some d)) ∧ H2 d = some (exd d fs) ∧ H1 d = none ∧ Q (.ref C) (some d) (upd (del H2 a) d (.xd fs))) (fun _ _ _ => False) := by
  refine ⟨a, C, v1, by rw [ev], T.o, T.n1, upd_same, fun dx hn ne => ?_⟩
  rw [upd_ne ne] at hn
  refine ⟨rfl, dx, [(f1, v1)], upd_same, by rw [upd_ne ne, upd_same], hn, ?_⟩
  have eq : upd (del (upd (upd (upd H1 a (exo a C none)) dx (exd dx [(f1, v1)])) a (exo a C (some dx))) a) dx (.xd [(f1, v1)]) = upd H1 dx (.xd [(f1, v1)]) := by
    funext b
    by_cases c : b = dx
    · subst c; rw [upd_same, upd_same]
    · rw [upd_ne c, upd_ne c]
      by_cases c2 : b = a
      · subst c2; rw [del_same, fa]
      · rw [del_ne c2, upd_ne c2, upd_ne c, upd_ne c2]
  rw [eq]
  exact q dx hn
theorem pmkX1 {CX : CXT} {x : Str} {fI : Addr} {k : Nat} {fd : FuncData} {ps : List Str} (T : ExcF1 X.K C fI f1)
    (F1 : FnOk X.prog X.w X.K X.mg X.base CX k fI fd ps (spXi1 X.K f1)) (hr : Room (k + 1) X.A) (hb : Binds X.K fd ps []) (hx : Passes CX X (fun _ _ _ => False)) (hg : Gl X x) (hm : X.mg x = some (.ref C)) (ha : PA X (e :: es) ta) (hdb : (x == ("__debug__" : Str)) = false := by decide)
    (h1 : starEach (e :: es) X.env = (false, eval e X.env) :: starEach es X.env := by rfl) (h2 : (backTo pos (starEach es X.env)).any (·.1) = false := by rfl) : L2H.PMk5 X (.Call (.Name x p) (e :: es) [] pos) (tXk1 C f1 ta) :=
  fun pins s σ H Q I h => wpAny_Call_Name_kw (ld_glob I hg hm (PySem.W.callWith_K (h₀ := X.base) I.ok.mod.kin T.o.kC (thn (ha.run pos pins s σ H _ I h) fun us s1 ⟨vs, H1, I1, r1, v1, ev, q⟩ => ⟨I1.kIn, mkX_core (dvs := []) T.o T.iC T.tI F1 hr hb .nil hx I1 r1 (by rw [ev]; show 1 ≤ 1000; decide) (xk_q1 T (by rw [List.append_nil]; exact ev) q)⟩) h1 h2) hdb)
theorem h_xk1 {Q : XK} (h : ta σ H fun vs H1 => ∃ v1, vs = [v1] ∧ ∀ dx, H1 dx = none → Q (.ref C) (some dx) (upd H1 dx (.xd [(f1, v1)]))) : tXk1 C f1 ta σ H (Q : XK) := h
end
section
variable {K : PySem.W.Frag} {H : Hp} {σ : L2.St} {D' : Ends} {mg : Str → Option Value} {nm : Str}
theorem h_wAsD {C S' : Addr} {i : Nat} {d : Option Addr} {ts : Addr → Value → Option Addr → TS} {Wout : WX} (T : ExcT K mg nm S') (hs : PySem.W.subIn K (.ref C) (.ref S') = some true)
    (h : ∀ a, H a = none → ts a (.ref C) d { nx := fun σ' H' => D'.nx (σ'.set i none) H', rt := D'.rt, bk := fun σ' H' => D'.bk (σ'.set i none) H', ct := fun σ' H' => D'.ct (σ'.set i none) H' } (σ.set i (some (.ref a))) H) :
    wAs K (.ref S') i ts Wout D' (.ref C) d σ H := ⟨true, T.exm hs, fun _ a ha => h a ha, fun q => nomatch q⟩
end
section
open PySem.Calls PySem.W
variable {prog : Program} {w : World} {A : Around} {E : Value → Shared → Prop} {s : Shared} {K : Frag} {x D : Addr} {ox : Obj} {od : Option Obj}
theorem find_dataO {C : Addr} {name : Str} {a g : Value} (hc : (clsIn K C).isSome = true) (ha : findIn K (.ref C) name = some (some a)) (hg : specialIn K a "__get__" = some (some g)) (ht : takesIn K a = some true) : findObj K C od name = some (.bind g a) := by
  obtain ⟨cd, hc⟩ := Option.isSome_iff_exists.mp hc
  unfold findObj
  rw [hc, Option.bind_some, ha, Option.bind_some]
  simp [hg, ht]
theorem class_of_err {Q : Option Value → Shared → Prop} (T : ExcC K D) (X : K.In s.heap) (I : InstAt s.heap x ox D od) (h : Q (some (.ref D)) { s with toks := s.toks + 1 }) : wpAny (model prog w) A (getAttr? (.ref x) "__class__") Q E s := by
  have hf : findObj K D od "__class__" = some (.bind (.builtin "getset_descriptor.__get__") (.builtin "object.__class__")) := find_dataO (by obtain ⟨cd, hc, _⟩ := any_some T.hd; rw [hc]; rfl) T.ha T.hn T.ht
  obtain ⟨hp, g, d, t, os⟩ := s
  have L0 := I.type (M := model prog w)
  have L1 := looks_findIn (M := model prog w) X T.hg
  have L2 := looks_findIn (M := model prog w) X T.hk
  have L3 := looks_find (M := model prog w) X I hf
  have sub : Looks (model prog w) hp (isInstance (.ref x) (.type "BaseException")) true := L0.andThen (looks_subIn X T.hs)
  have e0 : (false && onTheHeap (Value.builtin "BaseException.__getattribute__")) = false := rfl
  have e2 : (Value.builtin "BaseException.__getattribute__" == Value.builtin "object.__getattribute__") = false := by decide +kernel
  have e1 : (onTheHeap (Value.ref D) && Value.builtin "BaseException.__getattribute__" == Value.builtin "object.__getattribute__") = false := by rw [e2]; rfl
  unfold getAttr? getAttrBy? getAttrBy
  refine wpAny_bind (wpAny_mkText (wpAny_bind (wpAny_attempt (wpAny_holding (wpAny_bind (L0.at (wpAny_bind (L1.at ?_))))))))
  show wpAny _ _ (if (onTheHeap (Value.ref D) && Value.builtin "BaseException.__getattribute__" == Value.builtin "object.__getattribute__") = true then _ else _) _ _ _
  rw [e1, if_neg Bool.false_ne_true]
  unfold getAttrByItsOwn hookBefore
  refine wpAny_bind ?_
  rw [if_pos (show onTheHeap (Value.ref D) = true from rfl)]
  refine L2.at ?_
  refine wpAny_bind (wpAny_attempt (wpAny_holding ?_))
  unfold callGetattribute
  rw [e0, if_neg Bool.false_ne_true]
  unfold boundAndCalled
  rw [PySem.F.excAttr_ValueError.ga.bind (.ref x)]
  refine wpAny_bind (wpAny_pure ?_)
  show wpAny _ _ (call (.builtin "BaseException.__getattribute__") [.ref x, .str "__class__" t]) _ _ _
  refine wpAny_call (codeAny_call_builtin PySem.F.excAttr_ValueError.ga.plain PySem.F.entry_bexc_ga ?_)
  refine @check_slot (model prog w) _ _ ⟨hp, g, d, t + 1, os⟩ "BaseException.__getattribute__" "BaseException" "__getattribute__" (.ref x) [.str "__class__" t] [] _ (by decide +kernel) (by decide +kernel) sub (PySem.F.args_bexc_ga (.ref x) (.str "__class__" t)) ?_
  unfold Builtin.«object.__getattribute__»
  refine wpAny_bind (wpAny_of_eq (a := ((Value.ref x : Value), [Value.str "__class__" t])) (by first | rfl | (simp only [slotArgs]; rfl)) ?_)
  refine wpAny_bind (wpAny_pure (wpAny_bind (L0.at (wpAny_bind (L3.at ?_)))))
  show wpAny _ _ (holding [Value.builtin "object.__class__"] (call (.builtin "getset_descriptor.__get__") [.builtin "object.__class__", .ref x, .ref D]) >>= ret) _ _ _
  refine wpAny_bind (wpAny_holding (wpAny_call (class_get (s := ⟨hp, g, d, t + 1, os⟩) (ox := ox) (od := od) X I T.hm ?_)))
  refine wpAny_pure ?_
  show wpAny _ _ (handedOut (.ref D)) _ _ _
  rw [handedOut_of (v := .ref D) rfl]
  first
    | exact wpAny_pure (wpAny_pure h)
    | exact wpAny_pure h
    | exact wpAny_pure (wpAny_bind (wpAny_pure (wpAny_pure h)))
theorem kit_err (T : ExcC K D) : KitX K (.ref x) (.ref D) (fun h => InstAt h x ox D od) where
  ty := fun _ _ _ I => I.type
  it := fun _ _ X _ => by
    obtain ⟨_, hc, _⟩ := any_some T.hd
    unfold clsIn at hc
    split at hc
    · rename_i ho
      intro A' Q' E' s' k q
      unfold isType loadHead
      exact wpAny_bind (wpAny_loadPart (k _ _ (X _ _ ho)) (wpAny_pure q))
    · cases hc
  ne := (handS_kitx_exc (x := x) (ox := ox) T.hg T.hk T.hs T.hd T.ha T.hn T.ht T.hm).ne
  ca := fun X I k => class_of_err T X I k
end
def rIsED (K : PySem.W.Frag) (D a : Addr) (d : Option Addr) : List V → Hp → VK → Prop := fun xs H Q => (d = none ∨ ∃ x fs, d = some x ∧ H x = some (.xd fs)) ∧ rIsE K D a xs H Q
theorem call_isED {X : Cx} {a D : Addr} {d : Option Addr} {oe : Obj} {pn : List (Addr × Obj)} (C : ExcC X.K D) (hz : Zc (.ref D) d oe) (hf : ∃ vs, oe.data = .fields vs) : CallR (X.suite a ((a, oe) :: pn)) (.builtin "isinstance") (rIsED X.K D a d) := by
  intro pins s σ H xs us Q I r h
  obtain ⟨hd, c, cv, b, rfl, hcv, e, q⟩ := h
  cases r with
  | cons rx rr =>
    cases rr with
    | cons rt rr =>
      cases rr
      cases rx
      have ec := hcv _ rt
      subst ec
      obtain ⟨hget, _⟩ := I.pin (a, oe) (List.mem_append.mpr (.inl List.mem_cons_self))
      obtain ⟨vs, hv⟩ := hf
      have nc : PySem.W.notCls oe := by unfold PySem.W.notCls; rw [hv] <;> rfl
      obtain ⟨od, J⟩ : ∃ od, PySem.W.InstAt s.heap a oe D od := by
        rcases hd with rfl | ⟨x, fs, rfl, hx⟩
        · exact ⟨none, hget, hz.1, nc, by rw [hz.2]; trivial⟩
        · have hx : ObjOk _ _ H s.heap x (.xd fs) := I.hok x _ hx
          obtain ⟨mA, hns, _⟩ := hx
          obtain ⟨od, ho, _⟩ := lookIn_ns hns
          exact ⟨some od, hget, hz.1, nc, by rw [hz.2]; exact ho⟩
      exact PySem.W.kia_one (kit_err C) I.kIn J e (fun z => nomatch z) fun tk => ⟨.bl b, H, I.kept (t' := tk) fun _ _ z => z, rfl, q⟩
section
variable {K : PySem.W.Frag} {H : Hp} {σ : L2.St} {Q : VK} {mg : Str → Option Value} {nm : Str}
def tIsED (K : PySem.W.Frag) (a : Addr) (cls : Value) (d : Option Addr) (targs : TA) : TE := fun σ H Q => ∃ Dc, cls = .ref Dc ∧ ExcC K Dc ∧ tCB (rIsED K Dc a d) targs σ H Q
theorem pe_isED {X : Cx} {e : Expr} {a : Addr} {cls : Value} {d : Option Addr} {targs : TA} (hK : X.K = K) (h : ∀ Dc, cls = .ref Dc → ExcC K Dc → PE X e (tCB (rIsED K Dc a d) targs)) : PE X e (tIsED K a cls d targs) :=
  ⟨fun pins s σ H Q I q => by
    obtain ⟨Dc, e1, ec, q⟩ := q
    exact (h Dc e1 ec).run pins s σ H Q I q⟩
theorem h_isED {a C : Addr} {d : Option Addr} {targs : TA} (T : ExcT K mg nm C) (h : targs σ H fun vs H1 => rIsED K C a d vs H1 Q) : tIsED K a (.ref C) d targs σ H Q := ⟨C, rfl, T.ec, h⟩
theorem h_isEDR {a C : Addr} {d : Option Addr} {xs : List V} {x : Addr} {fs : List (Str × V)} (hd : d = some x) (hx : H x = some (.xd fs)) (h : rIsE K C a xs H Q) : rIsED K C a d xs H Q := ⟨.inr ⟨x, fs, hd, hx⟩, h⟩
end
section
variable {K : PySem.W.Frag} {B H : Hp} {Q : VK} {x y : V} {p q : Int × Int}
end
instance : Dec (Int × Int) := ⟨fun d => match d with | .pr a b => some (a, b) | _ => none, fun d x e => by
  cases d <;> simp at e
  rw [← e]
  rfl⟩
theorem noLs_prs : ∀ l : List (Int × Int), noLs (l.map enc) = true
  | [] => rfl
  | _ :: l => noLs_prs l
def XdOfN (K : PySem.W.Frag) (f : Str) (as : List D) (d : Option Addr) (B H0 H : Hp) : Prop := ∃ (x : Addr) (v : V) (e : D), d = some x ∧ H x = some (.xd [(f, v)]) ∧ as = [e] ∧ RepN K B H0 v e
def RaiN (K : PySem.W.Frag) (mg : Str → Option Value) (f : Str) (B H : Hp) (e : Err) (E : XK) : Prop := ∀ C d B' H', mg e.cls = some (.ref C) → Stp [] B H B' H' → XdOfN K f e.args d B' H H' → E (.ref C) d H'
section
variable {K : PySem.W.Frag} {B B' H H' H0 : Hp} {Q : VK} {σ : L2.St} {mg : Str → Option Value} {nm : Str}
theorem Stp.xd {W : List Addr} {x : Addr} {fs : List (Str × V)} (s : Stp W B H B' H') (h : H x = some (.xd fs)) (hw : x ∉ W := by simp) : H' x = some (.xd fs) := s.fr _ _ hw h
theorem ExcT.xf {C : Addr} (T : ExcT K mg nm C) : XfC K C := ⟨T.ec.hg, T.ec.hk, T.ec.hs, T.ec.hd⟩
theorem h_xfV {n : Nat} {a C x : Addr} {f : Str} {d : Option Addr} {v : V} (e : σ[n]? = some (some (.ref a))) (hd : d = some x) (hx : H x = some (.xd [(f, v)])) (h : Q v H) : tXf a (.ref C) d C f (tVar n) σ H Q :=
  h_var e ⟨rfl, rfl, x, _, v, hd, hx, by simp, h⟩
def rIsETD (K : PySem.W.Frag) (D a : Addr) (d : Option Addr) : List V → Hp → VK → Prop := fun xs H Q => (∃ x fs, d = some x ∧ H x = some (.xd fs)) ∧ rIsET K D a xs H Q
theorem call_isETD {X : Cx} {a D : Addr} {d : Option Addr} {oe : Obj} {pn : List (Addr × Obj)} (C : ExcC X.K D) (hz : Zc (.ref D) d oe) (hf : ∃ vs, oe.data = .fields vs) : CallR (X.suite a ((a, oe) :: pn)) (.builtin "isinstance") (rIsETD X.K D a d) := by
  rintro pins s σ H _ us Q I r ⟨⟨x, fs, rfl, hx⟩, tp, cs, ws, b, rfl, hT, k, e, q⟩
  obtain ⟨u1, u2, rfl, r1, r2⟩ := r.two
  cases (show u1 = Value.ref a from r1)
  cases (show u2 = Value.ref tp from r2)
  have hget := (I.pin (a, oe) (List.mem_append.mpr (.inl List.mem_cons_self))).1
  obtain ⟨vs, hv⟩ := hf
  have nc : PySem.W.notCls oe := by unfold PySem.W.notCls; rw [hv] <;> rfl
  obtain ⟨mA, hns, _⟩ := (show ObjOk X.prog X.w H s.heap x (.xd fs) from I.hok x _ hx)
  obtain ⟨od, ho, _⟩ := lookIn_ns hns
  have J : PySem.W.InstAt s.heap a oe D (some od) := ⟨hget, hz.1, nc, by rw [hz.2]; exact ho⟩
  obtain ⟨_, its, rv, o, g1, g2, n, g3⟩ := (show ObjOk X.prog X.w H s.heap tp (.tup cs) from I.hok tp _ hT)
  have e3 := ClsV.all k rv
  subst e3
  obtain ⟨oc, od2, dt, sl⟩ := o
  dsimp only at g2 g3
  subst g2 g3
  exact PySem.W.kia_tup (kit_err C) I.kIn J g1 e (fun z => nomatch z) fun tk => ⟨.bl b, H, I.kept (t' := tk) fun _ _ z => z, rfl, q⟩
def tIsETD (K : PySem.W.Frag) (a : Addr) (cls : Value) (d : Option Addr) (targs : TA) : TE := fun σ H Q => ∃ Dc, cls = .ref Dc ∧ ExcC K Dc ∧ tCB (rIsETD K Dc a d) targs σ H Q
theorem pe_isETD {X : Cx} {e : Expr} {a : Addr} {cls : Value} {d : Option Addr} {targs : TA} (hK : X.K = K) (h : ∀ Dc, cls = .ref Dc → ExcC K Dc → PE X e (tCB (rIsETD K Dc a d) targs)) : PE X e (tIsETD K a cls d targs) :=
  ⟨fun pins s σ H Q I q => by
    obtain ⟨Dc, e1, ec, q⟩ := q
    exact (h Dc e1 ec).run pins s σ H Q I q⟩
theorem h_isETD {a C : Addr} {d : Option Addr} {targs : TA} (T : ExcT K mg nm C) (h : targs σ H fun vs H1 => rIsETD K C a d vs H1 Q) : tIsETD K a (.ref C) d targs σ H Q := ⟨C, rfl, T.ec, h⟩
theorem h_isETDR {a C tp x : Addr} {d : Option Addr} {fs : List (Str × V)} {xs : List V} {us : List Value} {b : Bool} (hd : d = some x) (hx : (upd H tp (.tup xs)) x = some (.xd fs)) (hp : Paired ClsV xs us) (e : PySem.W.kitAny K (.ref C) us = some b) (q : Q (.bl b) (upd H tp (.tup xs))) : rIsETD K C a d [.ref a, .ref tp] (upd H tp (.tup xs)) Q := ⟨⟨x, fs, hd, hx⟩, tp, xs, us, b, rfl, upd_same, hp, e, q⟩
theorem h_tupRv {xs : List V} (s : Stp [] B H0 B H) (w : Ex B H) (hn : xs.length ≤ sizeLine) (h : ∀ q H', Stp [] B H0 B H' → (∀ p o, H p = some o → H' p = some o) → Q (.ref q) H') : NewT xs H Q :=
  ⟨hn, fun q hq => h q _ (s.go (Stp.newM w hq) go0) fun p o e => by
    have n : p ≠ q := fun c => by rw [c, hq] at e; exact nomatch e
    rw [upd_ne n]; exact e⟩
end
end Y

namespace A
open PySem PySem.Spec PyProof.Rows L2 Y
open Y.Enc (enc)
abbrev top (i : Nat) : Stmt := PySem.Challenge.pw_lanescroll_k28_ways_to_what_has_not_come.main.body.getD i (.Pass ⟨0, 0, 0, 0⟩)
def isWhole (d : D) (lo hi : Int) : Bool := match d with
  | .int i => decide (lo ≤ i) && decide (i ≤ hi)
  | _ => false
def m_is_whole (d : D) (lo hi : Int) : Res Bool := .ok (isWhole d lo hi)
abbrev Qf := Tp2 Int Int
abbrev Cal (Pr : Program) (wo : World) (K : PySem.W.Frag) (mg : Str → Option Value) (base : Heap) (nm : Str) (ps : List Str) (CX : CXT) (k : Nat) (sp : Sp) : Prop := ∃ f d, mg nm = some (.ref f) ∧ PySem.W.keepIn K (.ref f) = true ∧ L2.Binds K d ps [] ∧ FnOk Pr wo K mg base CX k f d ps sp
inductive K_Rule where
  | Plain (x_worth : Int)
  | Moved (x_back : Int) (x_cell : Int) (x_add : Int)
  | Mixed (x_back : Int) (x_cell : Int) (x_other_back : Int) (x_other_cell : Int)
instance : Enc K_Rule := ⟨fun x => match x with
  | .Plain x_worth => .obj "Plain" [("worth", enc x_worth)]
  | .Moved x_back x_cell x_add => .obj "Moved" [("back", enc x_back), ("cell", enc x_cell), ("add", enc x_add)]
  | .Mixed x_back x_cell x_other_back x_other_cell => .obj "Mixed" [("back", enc x_back), ("cell", enc x_cell), ("other_back", enc x_other_back), ("other_cell", enc x_other_cell)]⟩
inductive K_Leaf where
  | Full (x_begin : Int) (x_span : Int) (x_worths : D)
  | Still (x_begin : Int) (x_span : Int) (x_back : Int)
  | Woven (x_begin : Int) (x_span : Int) (x_rules : D)
instance : Enc K_Leaf := ⟨fun x => match x with
  | .Full x_begin x_span x_worths => .obj "Full" [("begin", enc x_begin), ("span", enc x_span), ("worths", enc x_worths)]
  | .Still x_begin x_span x_back => .obj "Still" [("begin", enc x_begin), ("span", enc x_span), ("back", enc x_back)]
  | .Woven x_begin x_span x_rules => .obj "Woven" [("begin", enc x_begin), ("span", enc x_span), ("rules", enc x_rules)]⟩
def m_Plain__needs (s_worth : Int) : Res (List Qf) :=
  .ok ([] : List Qf)
def sp_Plain__needs (K : PySem.W.Frag) : Sp := fun vs H Q _ => ∃ (B : Hp) (v_self : V) (s_worth : Int), Ex B H ∧ vs = [v_self] ∧ Rep K B v_self (enc (K_Rule.Plain s_worth)) ∧ Post (m_Plain__needs s_worth) (fun r => RetF K [] B H (r.map enc) Q) (fun _ => False)
abbrev s_Plain__needs : Stmt := inClass (top 20) 1
theorem sc_Plain__needs : FnScope ["self"] ["self"] (defScope s_Plain__needs) := ⟨rfl, rfl, rfl, by decide +kernel, rfl, by decide +kernel, by decide +kernel⟩
def m_Moved__needs (s_back : Int) (s_cell : Int) (s_add : Int) : Res (List Qf) :=
  .ok ([(⟨s_back, s_cell⟩ : Qf)] : List Qf)
def sp_Moved__needs (K : PySem.W.Frag) : Sp := fun vs H Q _ => ∃ (B : Hp) (v_self : V) (s_back : Int) (s_cell : Int) (s_add : Int), Ex B H ∧ vs = [v_self] ∧ Rep K B v_self (enc (K_Rule.Moved s_back s_cell s_add)) ∧ Post (m_Moved__needs s_back s_cell s_add) (fun r => RetF K [] B H (r.map enc) Q) (fun _ => False)
abbrev s_Moved__needs : Stmt := inClass (top 22) 2
theorem sc_Moved__needs : FnScope ["self"] ["self"] (defScope s_Moved__needs) := ⟨rfl, rfl, rfl, by decide +kernel, rfl, by decide +kernel, by decide +kernel⟩
def m_Mixed__needs (s_back : Int) (s_cell : Int) (s_other_back : Int) (s_other_cell : Int) : Res (List Qf) :=
  .ok ([(⟨s_back, s_cell⟩ : Qf), (⟨s_other_back, s_other_cell⟩ : Qf)] : List Qf)
def sp_Mixed__needs (K : PySem.W.Frag) : Sp := fun vs H Q _ => ∃ (B : Hp) (v_self : V) (s_back : Int) (s_cell : Int) (s_other_back : Int) (s_other_cell : Int), Ex B H ∧ vs = [v_self] ∧ Rep K B v_self (enc (K_Rule.Mixed s_back s_cell s_other_back s_other_cell)) ∧ Post (m_Mixed__needs s_back s_cell s_other_back s_other_cell) (fun r => RetF K [] B H (r.map enc) Q) (fun _ => False)
abbrev s_Mixed__needs : Stmt := inClass (top 23) 2
theorem sc_Mixed__needs : FnScope ["self"] ["self"] (defScope s_Mixed__needs) := ⟨rfl, rfl, rfl, by decide +kernel, rfl, by decide +kernel, by decide +kernel⟩
def m_Rule__needs (x : K_Rule) : Res (List Qf) := match x with
  | .Plain x_worth => m_Plain__needs x_worth 
  | .Moved x_back x_cell x_add => m_Moved__needs x_back x_cell x_add 
  | .Mixed x_back x_cell x_other_back x_other_cell => m_Mixed__needs x_back x_cell x_other_back x_other_cell 
def A_Rule__needs (K : PySem.W.Frag) (mg : Str → Option Value) (C_Plain C_Moved C_Mixed : Addr) (C : Addr) (sp : Sp) : Prop := (C = C_Plain ∧ sp = sp_Plain__needs K) ∨ (C = C_Moved ∧ sp = sp_Moved__needs K) ∨ (C = C_Mixed ∧ sp = sp_Mixed__needs K)
theorem disp_Rule__needs {K : PySem.W.Frag} {mg : Str → Option Value} {B H : Hp} {v : V} {x : K_Rule} {C_Plain C_Moved C_Mixed : Addr} (T_Plain : KI K mg "Plain" C_Plain) (T_Moved : KI K mg "Moved" C_Moved) (T_Mixed : KI K mg "Mixed" C_Mixed) (w : Ex B H) (r : Rep K B v (enc x)) : ∃ a C dx fs sp, v = .ref a ∧ H a = some (.ins C dx fs) ∧ A_Rule__needs K mg C_Plain C_Moved C_Mixed C sp ∧ fs.lookup ("needs" : Str) = none ∧ ∀ {B2 H2 : Hp} {Q : VK} {E : XK}, Ex B2 H2 → Rep K B2 v (enc x) → Post (m_Rule__needs x ) (fun r => RetF K [] B2 H2 (r.map enc) Q) (fun _ => False) → sp (v :: []) H2 Q E := by
  cases x with
  | Plain x_worth =>
    obtain ⟨p, dx, fs, rfl, hp, rf⟩ := r.ins w T_Plain.toKC
    exact ⟨p, C_Plain, dx, fs, sp_Plain__needs K, rfl, hp, .inl ⟨rfl, rfl⟩, rf.none (lkN (by decide +kernel) lkE), fun {B2 H2 Q E} w2 r2   P => ⟨B2, _, x_worth, w2, rfl, r2, P⟩⟩
  | Moved x_back x_cell x_add =>
    obtain ⟨p, dx, fs, rfl, hp, rf⟩ := r.ins w T_Moved.toKC
    exact ⟨p, C_Moved, dx, fs, sp_Moved__needs K, rfl, hp, .inr (.inl ⟨rfl, rfl⟩), rf.none (lkN (by decide +kernel) (lkN (by decide +kernel) (lkN (by decide +kernel) lkE))), fun {B2 H2 Q E} w2 r2   P => ⟨B2, _, x_back, x_cell, x_add, w2, rfl, r2, P⟩⟩
  | Mixed x_back x_cell x_other_back x_other_cell =>
    obtain ⟨p, dx, fs, rfl, hp, rf⟩ := r.ins w T_Mixed.toKC
    exact ⟨p, C_Mixed, dx, fs, sp_Mixed__needs K, rfl, hp, .inr (.inr (⟨rfl, rfl⟩)), rf.none (lkN (by decide +kernel) (lkN (by decide +kernel) (lkN (by decide +kernel) (lkN (by decide +kernel) lkE)))), fun {B2 H2 Q E} w2 r2   P => ⟨B2, _, x_back, x_cell, x_other_back, x_other_cell, w2, rfl, r2, P⟩⟩
def sp_is_whole (K : PySem.W.Frag) : Sp := fun vs H Q _ => ∃ (B : Hp) (v_thing : V) (a_thing : D) (a_low : Int) (a_high : Int), Ex B H ∧ vs = [v_thing, .int a_low, .int a_high] ∧ Rep K B v_thing (enc a_thing) ∧ Post (m_is_whole a_thing a_low a_high) (fun r => Ret K [] B H (enc r) Q) (fun _ => False)
abbrev s_is_whole : Stmt := top 18
theorem sc_is_whole : FnScope ["thing", "low", "high"] ["thing", "low", "high"] (defScope s_is_whole) := ⟨rfl, rfl, rfl, by decide +kernel, rfl, by decide +kernel, by decide +kernel⟩
abbrev s_Plain____init__ : Stmt := inClass (top 21) 0
theorem sc_Plain____init__ : FnScope ["self", "value"] ["self", "value"] (defScope s_Plain____init__) := ⟨rfl, rfl, rfl, by decide +kernel, rfl, by decide +kernel, by decide +kernel⟩
def m_Full__rule (s_begin : Int) (s_span : Int) (s_worths : D) (a_cell : D) : Res K_Rule :=
  (asT s_worths).bind fun l3 => ((m_is_whole a_cell 0 ((l3.length : Int) - 1)).noErr).bind fun x10 => (if x10 = true then (asI a_cell).bind fun i18 => (asT s_worths).bind fun l21 => (ixR l21 i18).bind fun x28 => (asI x28).bind fun i32 => .ok (K_Rule.Plain i32) else .err ⟨"NoCell", []⟩)
def sp_Full__rule (K : PySem.W.Frag) (mg : Str → Option Value) : Sp := fun vs H Q E => ∃ (B : Hp) (v_self : V) (s_begin : Int) (s_span : Int) (s_worths : D) (v_cell : V) (a_cell : D), Ex B H ∧ vs = [v_self, v_cell] ∧ Rep K B v_self (enc (K_Leaf.Full s_begin s_span s_worths)) ∧ Rep K B v_cell (enc a_cell) ∧ Post (m_Full__rule s_begin s_span s_worths a_cell) (fun r => Ret K [] B H (enc r) Q) (fun e => Rai K mg [] B H e E)
abbrev s_Full__rule : Stmt := inClass (top 28) 3
theorem sc_Full__rule : FnScope ["self", "cell"] ["self", "cell"] (defScope s_Full__rule) := ⟨rfl, rfl, rfl, by decide +kernel, rfl, by decide +kernel, by decide +kernel⟩
abbrev s_Moved____init__ : Stmt := inClass (top 22) 0
theorem sc_Moved____init__ : FnScope ["self", "back", "cell", "add"] ["self", "back", "cell", "add"] (defScope s_Moved____init__) := ⟨rfl, rfl, rfl, by decide +kernel, rfl, by decide +kernel, by decide +kernel⟩
def m_Still__rule (s_begin : Int) (s_span : Int) (s_back : Int) (a_cell : D) : Res K_Rule :=
  ((m_is_whole a_cell 0 15).noErr).bind fun x1 => (if x1 = true then (asI a_cell).bind fun i9 => .ok (K_Rule.Moved s_back i9 0) else .err ⟨"NoCell", []⟩)
def sp_Still__rule (K : PySem.W.Frag) (mg : Str → Option Value) : Sp := fun vs H Q E => ∃ (B : Hp) (v_self : V) (s_begin : Int) (s_span : Int) (s_back : Int) (v_cell : V) (a_cell : D), Ex B H ∧ vs = [v_self, v_cell] ∧ Rep K B v_self (enc (K_Leaf.Still s_begin s_span s_back)) ∧ Rep K B v_cell (enc a_cell) ∧ Post (m_Still__rule s_begin s_span s_back a_cell) (fun r => Ret K [] B H (enc r) Q) (fun e => Rai K mg [] B H e E)
abbrev s_Still__rule : Stmt := inClass (top 29) 2
theorem sc_Still__rule : FnScope ["self", "cell"] ["self", "cell"] (defScope s_Still__rule) := ⟨rfl, rfl, rfl, by decide +kernel, rfl, by decide +kernel, by decide +kernel⟩
def m_is_need (a_back : D) (a_cell : D) : Res Bool :=
  (m_is_whole a_back 1 200).bind fun x1 => (if x1 = true then (m_is_whole a_cell 0 15).bind fun x7 => .ok x7 else .ok false)
def sp_is_need (K : PySem.W.Frag) : Sp := fun vs H Q _ => ∃ (B : Hp) (v_back : V) (a_back : D) (v_cell : V) (a_cell : D), Ex B H ∧ vs = [v_back, v_cell] ∧ Rep K B v_back (enc a_back) ∧ Rep K B v_cell (enc a_cell) ∧ Post (m_is_need a_back a_cell) (fun r => Ret K [] B H (enc r) Q) (fun _ => False)
abbrev s_is_need : Stmt := top 24
theorem sc_is_need : FnScope ["back", "cell"] ["back", "cell"] (defScope s_is_need) := ⟨rfl, rfl, rfl, by decide +kernel, rfl, by decide +kernel, by decide +kernel⟩
abbrev s_Mixed____init__ : Stmt := inClass (top 23) 0
theorem sc_Mixed____init__ : FnScope ["self", "back", "cell", "other_back", "other_cell"] ["self", "back", "cell", "other_back", "other_cell"] (defScope s_Mixed____init__) := ⟨rfl, rfl, rfl, by decide +kernel, rfl, by decide +kernel, by decide +kernel⟩
def m_rule_of (a_told : D) : Res K_Rule :=
  (if (isA "tuple" a_told) = true then (asT a_told).bind fun l1 => (if (decide ((l1.length : Int) = 0)) = true then .err ⟨"NoRule", []⟩ else ((asT a_told).bind fun l11 => (ixR l11 0).bind fun x18 => guardR (okEq x18 (enc ("plain" : Str))) <| (if (eqD x18 (enc ("plain" : Str))) = true then (asT a_told).bind fun l22 => (if (decide ((l22.length : Int) = 2)) = true then (asT a_told).bind fun l29 => (ixR l29 1).bind fun x36 => ((m_is_whole x36 0 255).noErr).bind fun x40 => .ok x40 else .ok false) else .ok false) : Res Bool).bind fun b46 => (if b46 = true then (asT a_told).bind fun l50 => (ixR l50 1).bind fun x57 => (asI x57).bind fun i61 => .ok (K_Rule.Plain i61) else (((asT a_told).bind fun l76 => (ixR l76 0).bind fun x83 => guardR (okEq x83 (enc ("moved" : Str))) <| (if (eqD x83 (enc ("moved" : Str))) = true then (asT a_told).bind fun l87 => (if (decide ((l87.length : Int) = 4)) = true then (asT a_told).bind fun l94 => (ixR l94 1).bind fun x101 => (asT a_told).bind fun l105 => (ixR l105 2).bind fun x112 => ((m_is_need x101 x112).noErr).bind fun x116 => .ok x116 else .ok false) else .ok false) : Res Bool).bind fun b122 => (if b122 = true then (asT a_told).bind fun l126 => (ixR l126 3).bind fun x133 => ((m_is_whole x133 0 255).noErr).bind fun x137 => (if x137 = true then (asT a_told).bind fun l143 => (ixR l143 1).bind fun x150 => (asT a_told).bind fun l154 => (ixR l154 2).bind fun x161 => (asT a_told).bind fun l165 => (ixR l165 3).bind fun x172 => (asI x150).bind fun i176 => (asI x161).bind fun i179 => (asI x172).bind fun i182 => .ok (.rt (K_Rule.Moved i176 i179 i182)) else .ok (.nx ())) else .ok (.nx ())) : Res (Fl (Unit) _)).bind (afterR fun a190 => (((asT a_told).bind fun l201 => (ixR l201 0).bind fun x208 => guardR (okEq x208 (enc ("mixed" : Str))) <| (if (eqD x208 (enc ("mixed" : Str))) = true then (asT a_told).bind fun l212 => .ok (decide ((l212.length : Int) = 5)) else .ok false) : Res Bool).bind fun b219 => (if b219 = true then ((asT a_told).bind fun l226 => (ixR l226 1).bind fun x233 => (asT a_told).bind fun l237 => (ixR l237 2).bind fun x244 => ((m_is_need x233 x244).noErr).bind fun x248 => (if x248 = true then (asT a_told).bind fun l254 => (ixR l254 3).bind fun x261 => (asT a_told).bind fun l265 => (ixR l265 4).bind fun x272 => ((m_is_need x261 x272).noErr).bind fun x276 => .ok x276 else .ok false) : Res Bool).bind fun b282 => (if b282 = true then (asT a_told).bind fun l286 => (ixR l286 1).bind fun x293 => (asT a_told).bind fun l297 => (ixR l297 2).bind fun x304 => (asT a_told).bind fun l308 => (ixR l308 3).bind fun x315 => (asT a_told).bind fun l319 => (ixR l319 4).bind fun x326 => (asI x293).bind fun i330 => (asI x304).bind fun i333 => (asI x315).bind fun i336 => (asI x326).bind fun i339 => .ok (.rt (K_Rule.Mixed i330 i333 i336 i339)) else .ok (.nx ())) else .ok (.nx ())) : Res (Fl (Unit) _)).bind (afterR fun a347 => .err ⟨"NoRule", []⟩)))) else .err ⟨"NoRule", []⟩)
def sp_rule_of (K : PySem.W.Frag) (mg : Str → Option Value) : Sp := fun vs H Q E => ∃ (B : Hp) (v_told : V) (a_told : D), Ex B H ∧ vs = [v_told] ∧ Rep K B v_told (enc a_told) ∧ Post (m_rule_of a_told) (fun r => Ret K [] B H (enc r) Q) (fun e => Rai K mg [] B H e E)
abbrev s_rule_of : Stmt := top 25
theorem sc_rule_of : FnScope ["told"] ["told"] (defScope s_rule_of) := ⟨rfl, rfl, rfl, by decide +kernel, rfl, by decide +kernel, by decide +kernel⟩
def m_Woven__rule (s_begin : Int) (s_span : Int) (s_rules : D) (a_cell : D) : Res K_Rule :=
  (asT s_rules).bind fun l3 => ((m_is_whole a_cell 0 ((l3.length : Int) - 1)).noErr).bind fun x10 => (if x10 = true then (asI a_cell).bind fun i18 => (asT s_rules).bind fun l21 => (ixR l21 i18).bind fun x28 => (m_rule_of x28).bind fun x32 => .ok x32 else .err ⟨"NoCell", []⟩)
def sp_Woven__rule (K : PySem.W.Frag) (mg : Str → Option Value) : Sp := fun vs H Q E => ∃ (B : Hp) (v_self : V) (s_begin : Int) (s_span : Int) (s_rules : D) (v_cell : V) (a_cell : D), Ex B H ∧ vs = [v_self, v_cell] ∧ Rep K B v_self (enc (K_Leaf.Woven s_begin s_span s_rules)) ∧ Rep K B v_cell (enc a_cell) ∧ Post (m_Woven__rule s_begin s_span s_rules a_cell) (fun r => Ret K [] B H (enc r) Q) (fun e => Rai K mg [] B H e E)
abbrev s_Woven__rule : Stmt := inClass (top 30) 3
theorem sc_Woven__rule : FnScope ["self", "cell"] ["self", "cell"] (defScope s_Woven__rule) := ⟨rfl, rfl, rfl, by decide +kernel, rfl, by decide +kernel, by decide +kernel⟩
def m_Leaf__rule (x : K_Leaf) (a0 : D) : Res K_Rule := match x with
  | .Full x_begin x_span x_worths => m_Full__rule x_begin x_span x_worths a0
  | .Still x_begin x_span x_back => m_Still__rule x_begin x_span x_back a0
  | .Woven x_begin x_span x_rules => m_Woven__rule x_begin x_span x_rules a0
def A_Leaf__rule (K : PySem.W.Frag) (mg : Str → Option Value) (C_Full C_Still C_Woven : Addr) (C : Addr) (sp : Sp) : Prop := (C = C_Full ∧ sp = sp_Full__rule K mg) ∨ (C = C_Still ∧ sp = sp_Still__rule K mg) ∨ (C = C_Woven ∧ sp = sp_Woven__rule K mg)
theorem disp_Leaf__rule {K : PySem.W.Frag} {mg : Str → Option Value} {B H : Hp} {v : V} {x : K_Leaf} {C_Full C_Still C_Woven : Addr} (T_Full : KI K mg "Full" C_Full) (T_Still : KI K mg "Still" C_Still) (T_Woven : KI K mg "Woven" C_Woven) (w : Ex B H) (r : Rep K B v (enc x)) : ∃ a C dx fs sp, v = .ref a ∧ H a = some (.ins C dx fs) ∧ A_Leaf__rule K mg C_Full C_Still C_Woven C sp ∧ fs.lookup ("rule" : Str) = none ∧ ∀ {B2 H2 : Hp} {Q : VK} {E : XK}, Ex B2 H2 → Rep K B2 v (enc x) → ∀ (v0 : V) (a0 : D), Rep K B2 v0 (enc a0) → Post (m_Leaf__rule x a0) (fun r => Ret K [] B2 H2 (enc r) Q) (fun e => Rai K mg [] B2 H2 e E) → sp (v :: [v0]) H2 Q E := by
  cases x with
  | Full x_begin x_span x_worths =>
    obtain ⟨p, dx, fs, rfl, hp, rf⟩ := r.ins w T_Full.toKC
    exact ⟨p, C_Full, dx, fs, sp_Full__rule K mg, rfl, hp, .inl ⟨rfl, rfl⟩, rf.none (lkN (by decide +kernel) (lkN (by decide +kernel) (lkN (by decide +kernel) lkE))), fun {B2 H2 Q E} w2 r2 v0 a0 q0 P => ⟨B2, _, x_begin, x_span, x_worths, v0, a0, w2, rfl, r2, q0, P⟩⟩
  | Still x_begin x_span x_back =>
    obtain ⟨p, dx, fs, rfl, hp, rf⟩ := r.ins w T_Still.toKC
    exact ⟨p, C_Still, dx, fs, sp_Still__rule K mg, rfl, hp, .inr (.inl ⟨rfl, rfl⟩), rf.none (lkN (by decide +kernel) (lkN (by decide +kernel) (lkN (by decide +kernel) lkE))), fun {B2 H2 Q E} w2 r2 v0 a0 q0 P => ⟨B2, _, x_begin, x_span, x_back, v0, a0, w2, rfl, r2, q0, P⟩⟩
  | Woven x_begin x_span x_rules =>
    obtain ⟨p, dx, fs, rfl, hp, rf⟩ := r.ins w T_Woven.toKC
    exact ⟨p, C_Woven, dx, fs, sp_Woven__rule K mg, rfl, hp, .inr (.inr (⟨rfl, rfl⟩)), rf.none (lkN (by decide +kernel) (lkN (by decide +kernel) (lkN (by decide +kernel) lkE))), fun {B2 H2 Q E} w2 r2 v0 a0 q0 P => ⟨B2, _, x_begin, x_span, x_rules, v0, a0, w2, rfl, r2, q0, P⟩⟩
def m_needs_of (a_leaves : (List (Int × K_Leaf))) (a_pair : (Int × Int)) : Res (List (Int × Int)) :=
  (if (isNonD (enc (getA a_leaves ((⟨a_pair.1, a_pair.2⟩ : Tp2 Int Int).a)))) = true then .ok ([] : List (Int × Int)) else (someR (getA a_leaves ((⟨a_pair.1, a_pair.2⟩ : Tp2 Int Int).a))).bind fun x19 => ((m_Leaf__rule x19 (enc ((⟨a_pair.1, a_pair.2⟩ : Tp2 Int Int).b : Int))).noErr).bind fun x23 => (m_Rule__needs x23).bind fun x30 => (compR (x30) (() : Unit) (fun x53 (a57 : Unit) => .ok (some ((((⟨a_pair.1, a_pair.2⟩ : Tp2 Int Int).a - x53.a), x53.b) : Int × Int), ()))).bind <| un2 fun acc56 a57 => .ok acc56)
def sp_needs_of (K : PySem.W.Frag) : Sp := fun vs H Q _ => ∃ (B : Hp) (p_leaves : Addr) (a_leaves : (List (Int × K_Leaf))) (v_pair : V) (a_pair : (Int × Int)), Ex B H ∧ vs = [.ref p_leaves, v_pair] ∧ MuK K B H p_leaves (encA a_leaves) ∧ Rep K B v_pair (enc a_pair) ∧ Post (m_needs_of a_leaves a_pair) (fun r => RetF K [] B H (r.map enc) Q) (fun _ => False)
abbrev s_needs_of : Stmt := top 10
theorem sc_needs_of : FnScope ["leaves", "pair", "number", "cell", "leaf", "back", "there"] ["leaves", "pair"] (defScope s_needs_of) := ⟨rfl, rfl, rfl, by decide +kernel, rfl, by decide +kernel, by decide +kernel⟩
def m_hung (a_leaves : (List (Int × K_Leaf))) (a_pairs : (List (Int × Int))) : Res (List ((Int × Int) × Bool)) :=
  (whileR (4000) ((a_pairs, ([] : (List ((Int × Int) × Bool)))) : (List (Int × Int)) × (List ((Int × Int) × Bool))) (fun (a29 : (List (Int × Int)) × (List ((Int × Int) × Bool))) => guardR (okEq (enc a29.1) (enc ([] : List D))) <| (if (!(eqD (enc a29.1) (enc ([] : List D)))) = true then (popE a29.1).bind fun x45 => (if (hasA a29.2 x45.1 != true) = true then guardR (a29.2.length < 1000000) <| (m_needs_of a_leaves x45.1).bind fun x52 => guardR (x45.2.length + x52.length ≤ 1000000) <| .ok (.nx ((x45.2 ++ x52), (putA a29.2 x45.1 (true : Bool)))) else .ok (.nx (x45.2, a29.2))) else .ok (.bk (a29.1, a29.2))))).bind (afterR fun a69 => .ok a69.2)
def sp_hung (K : PySem.W.Frag) : Sp := fun vs H Q _ => ∃ (B : Hp) (p_leaves : Addr) (a_leaves : (List (Int × K_Leaf))) (v_pairs : V) (a_pairs : (List (Int × Int))), Ex B H ∧ vs = [.ref p_leaves, v_pairs] ∧ MuK K B H p_leaves (encA a_leaves) ∧ Bor K B H [] v_pairs (a_pairs.map enc) ∧ Post (m_hung a_leaves a_pairs) (fun r => RetDT K B H (encA r) Q) (fun _ => False)
abbrev s_hung : Stmt := top 11
theorem sc_hung : FnScope ["leaves", "pairs", "found", "waiting", "pair"] ["leaves", "pairs"] (defScope s_hung) := ⟨rfl, rfl, rfl, by decide +kernel, rfl, by decide +kernel, by decide +kernel⟩
def m_Plain__value (s_worth : Int) (a_found : (List Int)) : Res Int :=
  .ok s_worth
def sp_Plain__value (K : PySem.W.Frag) : Sp := fun vs H Q _ => ∃ (B : Hp) (v_self : V) (s_worth : Int) (v_found : V) (a_found : (List Int)), Ex B H ∧ vs = [v_self, v_found] ∧ Rep K B v_self (enc (K_Rule.Plain s_worth)) ∧ Bor K B H [] v_found (a_found.map enc) ∧ Post (m_Plain__value s_worth a_found) (fun r => Ret K [] B H (enc r) Q) (fun _ => False)
abbrev s_Plain__value : Stmt := inClass (top 21) 2
theorem sc_Plain__value : FnScope ["self", "found"] ["self", "found"] (defScope s_Plain__value) := ⟨rfl, rfl, rfl, by decide +kernel, rfl, by decide +kernel, by decide +kernel⟩
def m_Moved__value (s_back : Int) (s_cell : Int) (s_add : Int) (a_found : (List Int)) : Res Int :=
  (ixR a_found 0).bind fun x5 => .ok ((x5 + s_add) % 256)
def sp_Moved__value (K : PySem.W.Frag) : Sp := fun vs H Q _ => ∃ (B : Hp) (v_self : V) (s_back : Int) (s_cell : Int) (s_add : Int) (v_found : V) (a_found : (List Int)), Ex B H ∧ vs = [v_self, v_found] ∧ Rep K B v_self (enc (K_Rule.Moved s_back s_cell s_add)) ∧ Bor K B H [] v_found (a_found.map enc) ∧ Post (m_Moved__value s_back s_cell s_add a_found) (fun r => Ret K [] B H (enc r) Q) (fun _ => False)
abbrev s_Moved__value : Stmt := inClass (top 22) 3
theorem sc_Moved__value : FnScope ["self", "found"] ["self", "found"] (defScope s_Moved__value) := ⟨rfl, rfl, rfl, by decide +kernel, rfl, by decide +kernel, by decide +kernel⟩
def m_Mixed__value (s_back : Int) (s_cell : Int) (s_other_back : Int) (s_other_cell : Int) (a_found : (List Int)) : Res Int :=
  .ok (a_found.sum / 2)
def sp_Mixed__value (K : PySem.W.Frag) : Sp := fun vs H Q _ => ∃ (B : Hp) (v_self : V) (s_back : Int) (s_cell : Int) (s_other_back : Int) (s_other_cell : Int) (v_found : V) (a_found : (List Int)), Ex B H ∧ vs = [v_self, v_found] ∧ Rep K B v_self (enc (K_Rule.Mixed s_back s_cell s_other_back s_other_cell)) ∧ Bor K B H [] v_found (a_found.map enc) ∧ Post (m_Mixed__value s_back s_cell s_other_back s_other_cell a_found) (fun r => Ret K [] B H (enc r) Q) (fun _ => False)
abbrev s_Mixed__value : Stmt := inClass (top 23) 3
theorem sc_Mixed__value : FnScope ["self", "found"] ["self", "found"] (defScope s_Mixed__value) := ⟨rfl, rfl, rfl, by decide +kernel, rfl, by decide +kernel, by decide +kernel⟩
def m_Rule__value (x : K_Rule) (a0 : (List Int)) : Res Int := match x with
  | .Plain x_worth => m_Plain__value x_worth a0
  | .Moved x_back x_cell x_add => m_Moved__value x_back x_cell x_add a0
  | .Mixed x_back x_cell x_other_back x_other_cell => m_Mixed__value x_back x_cell x_other_back x_other_cell a0
def A_Rule__value (K : PySem.W.Frag) (mg : Str → Option Value) (C_Plain C_Moved C_Mixed : Addr) (C : Addr) (sp : Sp) : Prop := (C = C_Plain ∧ sp = sp_Plain__value K) ∨ (C = C_Moved ∧ sp = sp_Moved__value K) ∨ (C = C_Mixed ∧ sp = sp_Mixed__value K)
theorem disp_Rule__value {K : PySem.W.Frag} {mg : Str → Option Value} {B H : Hp} {v : V} {x : K_Rule} {C_Plain C_Moved C_Mixed : Addr} (T_Plain : KI K mg "Plain" C_Plain) (T_Moved : KI K mg "Moved" C_Moved) (T_Mixed : KI K mg "Mixed" C_Mixed) (w : Ex B H) (r : Rep K B v (enc x)) : ∃ a C dx fs sp, v = .ref a ∧ H a = some (.ins C dx fs) ∧ A_Rule__value K mg C_Plain C_Moved C_Mixed C sp ∧ fs.lookup ("value" : Str) = none ∧ ∀ {B2 H2 : Hp} {Q : VK} {E : XK}, Ex B2 H2 → Rep K B2 v (enc x) → ∀ (v0 : V) (a0 : (List Int)), Bor K B2 H2 [] v0 (a0.map enc) → Post (m_Rule__value x a0) (fun r => Ret K [] B2 H2 (enc r) Q) (fun _ => False) → sp (v :: [v0]) H2 Q E := by
  cases x with
  | Plain x_worth =>
    obtain ⟨p, dx, fs, rfl, hp, rf⟩ := r.ins w T_Plain.toKC
    exact ⟨p, C_Plain, dx, fs, sp_Plain__value K, rfl, hp, .inl ⟨rfl, rfl⟩, rf.none (lkN (by decide +kernel) lkE), fun {B2 H2 Q E} w2 r2 v0 a0 q0 P => ⟨B2, _, x_worth, v0, a0, w2, rfl, r2, q0, P⟩⟩
  | Moved x_back x_cell x_add =>
    obtain ⟨p, dx, fs, rfl, hp, rf⟩ := r.ins w T_Moved.toKC
    exact ⟨p, C_Moved, dx, fs, sp_Moved__value K, rfl, hp, .inr (.inl ⟨rfl, rfl⟩), rf.none (lkN (by decide +kernel) (lkN (by decide +kernel) (lkN (by decide +kernel) lkE))), fun {B2 H2 Q E} w2 r2 v0 a0 q0 P => ⟨B2, _, x_back, x_cell, x_add, v0, a0, w2, rfl, r2, q0, P⟩⟩
  | Mixed x_back x_cell x_other_back x_other_cell =>
    obtain ⟨p, dx, fs, rfl, hp, rf⟩ := r.ins w T_Mixed.toKC
    exact ⟨p, C_Mixed, dx, fs, sp_Mixed__value K, rfl, hp, .inr (.inr (⟨rfl, rfl⟩)), rf.none (lkN (by decide +kernel) (lkN (by decide +kernel) (lkN (by decide +kernel) (lkN (by decide +kernel) lkE)))), fun {B2 H2 Q E} w2 r2 v0 a0 q0 P => ⟨B2, _, x_back, x_cell, x_other_back, x_other_cell, v0, a0, w2, rfl, r2, q0, P⟩⟩
def m_values_of (a_leaves : (List (Int × K_Leaf))) (a_pairs : (List ((Int × Int) × Bool))) : Res (List ((Int × Int) × Int)) :=
  (forR ((sortP (a_pairs.map (·.1)))) (([] : (List ((Int × Int) × Int))) : (List ((Int × Int) × Int))) (fun x51 (a50 : (List ((Int × Int) × Int))) => (m_needs_of a_leaves (((⟨x51.1, x51.2⟩ : Tp2 Int Int).a, (⟨x51.1, x51.2⟩ : Tp2 Int Int).b) : Int × Int)).bind fun x75 => (someR (getA a_leaves ((⟨x51.1, x51.2⟩ : Tp2 Int Int).a))).bind fun x95 => ((m_Leaf__rule x95 (enc ((⟨x51.1, x51.2⟩ : Tp2 Int Int).b : Int))).noErr).bind fun x100 => (compR (x75) (() : Unit) (fun x114 (a118 : Unit) => (someR (getA a50 x114)).bind fun x134 => .ok (some x134, ()))).bind <| un2 fun acc117 a118 => (m_Rule__value x100 acc117).bind fun x147 => guardR (a50.length < 1000000) <| .ok (.nx (putA a50 (((⟨x51.1, x51.2⟩ : Tp2 Int Int).a, (⟨x51.1, x51.2⟩ : Tp2 Int Int).b) : Int × Int) (x147 : Int))))).bind (afterR fun a160 => .ok a160)
def sp_values_of (K : PySem.W.Frag) : Sp := fun vs H Q _ => ∃ (B : Hp) (p_leaves : Addr) (a_leaves : (List (Int × K_Leaf))) (p_pairs : Addr) (a_pairs : (List ((Int × Int) × Bool))), Ex B H ∧ vs = [.ref p_leaves, .ref p_pairs] ∧ MuK K B H p_leaves (encA a_leaves) ∧ MuT K B H p_pairs (encA a_pairs) ∧ Post (m_values_of a_leaves a_pairs) (fun r => RetDT K B H (encA r) Q) (fun _ => False)
abbrev s_values_of : Stmt := top 12
theorem sc_values_of : FnScope ["leaves", "pairs", "found", "number", "cell", "needs", "pair"] ["leaves", "pairs"] (defScope s_values_of) := ⟨rfl, rfl, rfl, by decide +kernel, rfl, by decide +kernel, by decide +kernel⟩
def m_all_came (a_leaves : (List (Int × K_Leaf))) (a_pairs : (List ((Int × Int) × Bool))) : Res (Bool × (List ((Int × Int) × Bool))) :=
  (compR ((a_pairs.map (·.1))) (() : Unit) (fun x10 (a14 : Unit) => .ok (some (hasA a_leaves ((⟨x10.1, x10.2⟩ : Tp2 Int Int).a) != false), ()))).bind <| un2 fun acc13 a14 => .ok ((acc13.all id), a_pairs)
def sp_all_came (K : PySem.W.Frag) : Sp := fun vs H Q _ => ∃ (B : Hp) (p_leaves : Addr) (a_leaves : (List (Int × K_Leaf))) (p_pairs : Addr) (a_pairs : (List ((Int × Int) × Bool))), Ex B H ∧ vs = [.ref p_leaves, .ref p_pairs] ∧ MuK K B H p_leaves (encA a_leaves) ∧ MuT K B H p_pairs (encA a_pairs) ∧ Post (m_all_came a_leaves a_pairs) (fun r => RetMD K p_pairs B H (enc r.1) (fun B H => MuT K B H p_pairs (encA r.2)) Q) (fun _ => False)
abbrev s_all_came : Stmt := top 13
theorem sc_all_came : FnScope ["leaves", "pairs", "number", "cell"] ["leaves", "pairs"] (defScope s_all_came) := ⟨rfl, rfl, rfl, by decide +kernel, rfl, by decide +kernel, by decide +kernel⟩
def m_known (a_leaves : (List (Int × K_Leaf))) (a_number : Int) (a_cell : Int) : Res (Option Int) :=
  (m_hung a_leaves ([((a_number, a_cell) : Int × Int)] : List (Int × Int))).bind fun x11 => (m_all_came a_leaves x11).bind fun x22 => (if x22.1 = true then (m_values_of a_leaves x22.2).bind fun x28 => (someR (getA x28 ((a_number, a_cell) : Int × Int))).bind fun x45 => .ok (some x45) else .ok none)
def sp_known (K : PySem.W.Frag) : Sp := fun vs H Q _ => ∃ (B : Hp) (p_leaves : Addr) (a_leaves : (List (Int × K_Leaf))) (a_number : Int) (a_cell : Int), Ex B H ∧ vs = [.ref p_leaves, .int a_number, .int a_cell] ∧ MuK K B H p_leaves (encA a_leaves) ∧ Post (m_known a_leaves a_number a_cell) (fun r => Ret K [] B H (enc r) Q) (fun _ => False)
abbrev s_known : Stmt := top 14
theorem sc_known : FnScope ["leaves", "number", "cell", "pairs"] ["leaves", "number", "cell"] (defScope s_known) := ⟨rfl, rfl, rfl, by decide +kernel, rfl, by decide +kernel, by decide +kernel⟩
def m_way_out (a_leaves : (List (Int × K_Leaf))) (a_pair : (Int × Int)) (a_pairs : (List ((Int × Int) × Bool))) : Res (List (Int × Int)) :=
  (forR ((sortP (a_pairs.map (·.1)))) (([] : (List ((Int × Int) × Bool))) : (List ((Int × Int) × Bool))) (fun x51 (a50 : (List ((Int × Int) × Bool))) => ((if (hasA a_leaves ((⟨x51.1, x51.2⟩ : Tp2 Int Int).a) != true) = true then .ok true else (m_needs_of a_leaves x51).bind fun x69 => (compR (x69) (() : Unit) (fun x97 (a101 : Unit) => .ok (some (hasA a50 x97 != false), ()))).bind <| un2 fun acc100 a101 => .ok (acc100.any id)) : Res Bool).bind fun b132 => (if b132 = true then guardR (a50.length < 1000000) <| .ok (.nx (putA a50 x51 (true : Bool))) else .ok (.nx a50)))).bind (afterR fun a138 => (whileR (4000) (([a_pair] : List (Int × Int)) : (List (Int × Int))) (fun (a162 : (List (Int × Int))) => (ixR a162 (-1)).bind fun x171 => (if (hasA a_leaves ((⟨x171.1, x171.2⟩ : Tp2 Int Int).a) != false) = true then (ixR a162 (-1)).bind fun x186 => (m_needs_of a_leaves x186).bind fun x190 => (compR (x190) (() : Unit) (fun x218 (a222 : Unit) => (if (hasA a138 x218 != false) = true then .ok (some x218, ()) else .ok (none, ())))).bind <| un2 fun acc221 a222 => (ixR acc221 0).bind fun x252 => guardR (a162.length < 1000000) <| .ok (.nx (a162 ++ [x252])) else .ok (.bk a162)))).bind (afterR fun a258 => .ok a258))
def sp_way_out (K : PySem.W.Frag) : Sp := fun vs H Q _ => ∃ (B : Hp) (p_leaves : Addr) (a_leaves : (List (Int × K_Leaf))) (v_pair : V) (a_pair : (Int × Int)) (p_pairs : Addr) (a_pairs : (List ((Int × Int) × Bool))), Ex B H ∧ vs = [.ref p_leaves, v_pair, .ref p_pairs] ∧ MuK K B H p_leaves (encA a_leaves) ∧ Rep K B v_pair (enc a_pair) ∧ MuT K B H p_pairs (encA a_pairs) ∧ Post (m_way_out a_leaves a_pair a_pairs) (fun r => RetF K [] B H (r.map enc) Q) (fun _ => False)
abbrev s_way_out : Stmt := top 15
theorem sc_way_out : FnScope ["leaves", "pair", "pairs", "lacks", "one", "need", "way"] ["leaves", "pair", "pairs"] (defScope s_way_out) := ⟨rfl, rfl, rfl, by decide +kernel, rfl, by decide +kernel, by decide +kernel⟩
abbrev s_NotKnown____init__ : Stmt := inClass (top 6) 0
theorem sc_NotKnown____init__ : FnScope ["self", "way"] ["self", "way"] (defScope s_NotKnown____init__) := ⟨rfl, rfl, rfl, by decide +kernel, rfl, by decide +kernel, by decide +kernel⟩
def m_table (a_leaves : (List (Int × K_Leaf))) (a_number : Int) (a_cell : Int) : Res (List (Tp3 Int Int Int)) :=
  ((m_hung a_leaves ([((a_number, a_cell) : Int × Int)] : List (Int × Int))).noErr).bind fun x11 => ((m_all_came a_leaves x11).noErr).bind fun x22 => (if x22.1 = true then ((m_values_of a_leaves x22.2).noErr).bind fun x54 => (compR ((sortP (x22.2.map (·.1)))) (() : Unit) (fun x102 (a106 : Unit) => (someR (getA x54 (((⟨x102.1, x102.2⟩ : Tp2 Int Int).a, (⟨x102.1, x102.2⟩ : Tp2 Int Int).b) : Int × Int))).bind fun x135 => .ok (some (⟨(⟨x102.1, x102.2⟩ : Tp2 Int Int).a, (⟨x102.1, x102.2⟩ : Tp2 Int Int).b, x135⟩ : (Tp3 Int Int Int)), ()))).bind <| un2 fun acc105 a106 => .ok acc105 else ((m_way_out a_leaves ((a_number, a_cell) : Int × Int) x22.2).noErr).bind fun x33 => guardR (noLs (x33.map enc) = true) <| .err ⟨"NotKnown", [(enc x33)]⟩)
def sp_table (K : PySem.W.Frag) (mg : Str → Option Value) : Sp := fun vs H Q E => ∃ (B : Hp) (p_leaves : Addr) (a_leaves : (List (Int × K_Leaf))) (a_number : Int) (a_cell : Int), Ex B H ∧ vs = [.ref p_leaves, .int a_number, .int a_cell] ∧ MuK K B H p_leaves (encA a_leaves) ∧ Post (m_table a_leaves a_number a_cell) (fun r => RetF K [] B H (r.map enc) Q) (fun e => RaiN K mg "way" B H e E)
abbrev s_table : Stmt := top 16
theorem sc_table : FnScope ["leaves", "number", "cell", "pairs", "values", "at", "there"] ["leaves", "number", "cell"] (defScope s_table) := ⟨rfl, rfl, rfl, by decide +kernel, rfl, by decide +kernel, by decide +kernel⟩
def m_is_value (a_thing : D) : Res Bool :=
  (m_is_whole a_thing 0 255).bind fun x1 => .ok x1
def sp_is_value (K : PySem.W.Frag) : Sp := fun vs H Q _ => ∃ (B : Hp) (v_thing : V) (a_thing : D), Ex B H ∧ vs = [v_thing] ∧ Rep K B v_thing (enc a_thing) ∧ Post (m_is_value a_thing) (fun r => Ret K [] B H (enc r) Q) (fun _ => False)
abbrev s_is_value : Stmt := top 31
theorem sc_is_value : FnScope ["thing"] ["thing"] (defScope s_is_value) := ⟨rfl, rfl, rfl, by decide +kernel, rfl, by decide +kernel, by decide +kernel⟩
def m_is_rule (a_thing : D) : Res Bool :=
  (tryR ((m_rule_of a_thing).bind fun x7 => .ok (.nx ()) : Res (Fl (Unit) (Bool))) (fun ⟨ec, ea⟩ => guardR (ec ∈ (["NoRule"] : List Str)) <| guardR (ea.isEmpty = true) <| .ok (.rt false))).bind (afterR fun a19 => .ok true)
def sp_is_rule (K : PySem.W.Frag) : Sp := fun vs H Q _ => ∃ (B : Hp) (v_thing : V) (a_thing : D), Ex B H ∧ vs = [v_thing] ∧ Rep K B v_thing (enc a_thing) ∧ Post (m_is_rule a_thing) (fun r => Ret K [] B H (enc r) Q) (fun _ => False)
abbrev s_is_rule : Stmt := top 32
theorem sc_is_rule : FnScope ["thing"] ["thing"] (defScope s_is_rule) := ⟨rfl, rfl, rfl, by decide +kernel, rfl, by decide +kernel, by decide +kernel⟩
def m_is_row_of__is_value (a_thing : D) : Res Bool :=
  (if (isA "tuple" a_thing) = true then (asT a_thing).bind fun l1 => (if (decide (1 ≤ (l1.length : Int))) = true then (if (decide ((l1.length : Int) ≤ 16)) = true then (asT a_thing).bind fun l8 => (compR (l8) (() : Unit) (fun x18 (a22 : Unit) => (m_is_value x18).bind fun x34 => .ok (some x34, ()))).bind <| un2 fun acc21 a22 => .ok (acc21.all id) else .ok false) else .ok false) else .ok false)
def sp_is_row_of__is_value (K : PySem.W.Frag) (f_is_value : Addr) : Sp := fun vs H Q _ => ∃ (B : Hp) (v_thing : V) (a_thing : D), Ex B H ∧ vs = [v_thing, .ref f_is_value] ∧ Rep K B v_thing (enc a_thing) ∧ Post (m_is_row_of__is_value a_thing) (fun r => Ret K [] B H (enc r) Q) (fun _ => False)
abbrev s_is_row_of__is_value : Stmt := top 33
theorem sc_is_row_of__is_value : FnScope ["thing", "good", "one"] ["thing", "good"] (defScope s_is_row_of__is_value) := ⟨rfl, rfl, rfl, by decide +kernel, rfl, by decide +kernel, by decide +kernel⟩
def m_is_row_of__is_rule (a_thing : D) : Res Bool :=
  (if (isA "tuple" a_thing) = true then (asT a_thing).bind fun l1 => (if (decide (1 ≤ (l1.length : Int))) = true then (if (decide ((l1.length : Int) ≤ 16)) = true then (asT a_thing).bind fun l8 => (compR (l8) (() : Unit) (fun x18 (a22 : Unit) => (m_is_rule x18).bind fun x34 => .ok (some x34, ()))).bind <| un2 fun acc21 a22 => .ok (acc21.all id) else .ok false) else .ok false) else .ok false)
def sp_is_row_of__is_rule (K : PySem.W.Frag) (f_is_rule : Addr) : Sp := fun vs H Q _ => ∃ (B : Hp) (v_thing : V) (a_thing : D), Ex B H ∧ vs = [v_thing, .ref f_is_rule] ∧ Rep K B v_thing (enc a_thing) ∧ Post (m_is_row_of__is_rule a_thing) (fun r => Ret K [] B H (enc r) Q) (fun _ => False)
abbrev s_is_row_of__is_rule : Stmt := top 33
theorem sc_is_row_of__is_rule : FnScope ["thing", "good", "one"] ["thing", "good"] (defScope s_is_row_of__is_rule) := ⟨rfl, rfl, rfl, by decide +kernel, rfl, by decide +kernel, by decide +kernel⟩
abbrev s_Leaf____init__ : Stmt := inClass (top 27) 0
theorem sc_Leaf____init__ : FnScope ["self", "begin", "span"] ["self", "begin", "span"] (defScope s_Leaf____init__) := ⟨rfl, rfl, rfl, by decide +kernel, rfl, by decide +kernel, by decide +kernel⟩
abbrev s_Full____init__ : Stmt := inClass (top 28) 0
theorem sc_Full____init__ : FnScope ["self", "begin", "span", "values"] ["self", "begin", "span", "values"] (defScope s_Full____init__) := ⟨rfl, rfl, rfl, by decide +kernel, rfl, by decide +kernel, by decide +kernel⟩
abbrev s_Still____init__ : Stmt := inClass (top 29) 0
theorem sc_Still____init__ : FnScope ["self", "begin", "span", "back"] ["self", "begin", "span", "back"] (defScope s_Still____init__) := ⟨rfl, rfl, rfl, by decide +kernel, rfl, by decide +kernel, by decide +kernel⟩
abbrev s_Woven____init__ : Stmt := inClass (top 30) 0
theorem sc_Woven____init__ : FnScope ["self", "begin", "span", "rules"] ["self", "begin", "span", "rules"] (defScope s_Woven____init__) := ⟨rfl, rfl, rfl, by decide +kernel, rfl, by decide +kernel, by decide +kernel⟩
def m_leaf_of (a_told : D) : Res K_Leaf :=
  (if (isA "tuple" a_told) = true then (asT a_told).bind fun l1 => (if (!decide ((l1.length : Int) = 4)) = true then .err ⟨"NoLeaf", []⟩ else (asT a_told).bind fun l8 => guardR (l8.length = 4) <| (ixR l8 0).bind fun x16 => (ixR l8 1).bind fun x20 => (ixR l8 2).bind fun x24 => (ixR l8 3).bind fun x28 => ((m_is_whole x20 0 1000000000).noErr).bind fun x32 => (if x32 = true then ((m_is_whole x24 1 1000000000).noErr).bind fun x38 => (if x38 = true then (guardR (okEq x16 (enc ("full" : Str))) <| (if (eqD x16 (enc ("full" : Str))) = true then ((m_is_row_of__is_value x28).noErr).bind fun x47 => .ok x47 else .ok false) : Res Bool).bind fun b53 => (if b53 = true then (asI x20).bind fun i57 => (asI x24).bind fun i60 => .ok (K_Leaf.Full i57 i60 x28) else (guardR (okEq x16 (enc ("still" : Str))) <| (if (eqD x16 (enc ("still" : Str))) = true then ((m_is_whole x28 1 200).noErr).bind fun x71 => .ok x71 else .ok false) : Res Bool).bind fun b77 => (if b77 = true then (asI x20).bind fun i81 => (asI x24).bind fun i84 => (asI x28).bind fun i87 => .ok (K_Leaf.Still i81 i84 i87) else (guardR (okEq x16 (enc ("woven" : Str))) <| (if (eqD x16 (enc ("woven" : Str))) = true then ((m_is_row_of__is_rule x28).noErr).bind fun x98 => .ok x98 else .ok false) : Res Bool).bind fun b104 => (if b104 = true then (asI x20).bind fun i108 => (asI x24).bind fun i111 => .ok (K_Leaf.Woven i108 i111 x28) else .err ⟨"NoLeaf", []⟩))) else .err ⟨"NoLeaf", []⟩) else .err ⟨"NoLeaf", []⟩)) else .err ⟨"NoLeaf", []⟩)
def sp_leaf_of (K : PySem.W.Frag) (mg : Str → Option Value) : Sp := fun vs H Q E => ∃ (B : Hp) (v_told : V) (a_told : D), Ex B H ∧ vs = [v_told] ∧ Rep K B v_told (enc a_told) ∧ Post (m_leaf_of a_told) (fun r => Ret K [] B H (enc r) Q) (fun e => Rai K mg [] B H e E)
abbrev s_leaf_of : Stmt := top 34
theorem sc_leaf_of : FnScope ["told", "word", "begin", "span", "rest"] ["told"] (defScope s_leaf_of) := ⟨rfl, rfl, rfl, by decide +kernel, rfl, by decide +kernel, by decide +kernel⟩
def l_cell_at (a_script : (List Int)) (a_k : Int) : Res Int :=
  (if (decide (a_k < (a_script.length : Int))) = true then (ixR a_script a_k).bind fun x9 => .ok x9 else guardR (okEq (enc a_script) (enc ([] : List D))) <| (if (eqD (enc a_script) (enc ([] : List D))) = true then .ok a_k else guardR (0 < (a_script.length : Int)) <| (ixR a_script (a_k % (a_script.length : Int))).bind fun x30 => .ok (x30 + (104729 * a_k))))
def sp__law_cell_at (K : PySem.W.Frag) : Sp := fun vs H Q _ => ∃ (B : Hp) (v_script : V) (a_script : (List Int)) (a_k : Int), Ex B H ∧ vs = [v_script, .int a_k] ∧ Bor K B H [] v_script (a_script.map enc) ∧ Post (l_cell_at a_script a_k) (fun r => Ret K [] B H (enc r) Q) (fun _ => False)
abbrev s__law_cell_at : Stmt := top 36
theorem sc__law_cell_at : FnScope ["_law_script", "_law_k"] ["_law_script", "_law_k"] (defScope s__law_cell_at) := ⟨rfl, rfl, rfl, by decide +kernel, rfl, by decide +kernel, by decide +kernel⟩
def l_well (a_script : (List Int)) (a_k : Int) : Res (List Int) :=
  (l_cell_at a_script a_k).bind fun x1 => .ok ([x1, (x1 % 2147483647), 0] : List Int)
def sp__law_well (K : PySem.W.Frag) : Sp := fun vs H Q _ => ∃ (B : Hp) (v_script : V) (a_script : (List Int)) (a_k : Int), Ex B H ∧ vs = [v_script, .int a_k] ∧ Bor K B H [] v_script (a_script.map enc) ∧ Post (l_well a_script a_k) (fun r => RetF K [] B H (r.map enc) Q) (fun _ => False)
abbrev s__law_well : Stmt := top 37
theorem sc__law_well : FnScope ["_law_script", "_law_k", "_law_cell"] ["_law_script", "_law_k"] (defScope s__law_well) := ⟨rfl, rfl, rfl, by decide +kernel, rfl, by decide +kernel, by decide +kernel⟩
def l_draw (a_well_here : (List Int)) (a_many : Int) : Res (Int × (List Int)) :=
  (ixR a_well_here 0).bind fun x5 => (if (decide (1000000000000000000 ≤ x5)) = true then (ixR a_well_here 0).bind fun x13 => guardR (0 < a_many) <| lt ((x13 % a_many) : Int) fun x17 => (ixR a_well_here 0).bind fun x22 => guardR (CDivW x22 a_many) <| (setR a_well_here 0 (x22 / a_many)).bind fun x26 => .ok (x17, x26) else (ixR a_well_here 2).bind fun x35 => (setR a_well_here 2 (x35 + 1)).bind fun x39 => (ixR x39 1).bind fun x48 => (ixR x39 2).bind fun x56 => lt (((((x48 + (7919 * x56)) + 1) * 48271) % 2147483647) : Int) fun x60 => guardR (CMulW x60 ((x60 / 1009) + 69621)) <| lt (((x60 * ((x60 / 1009) + 69621)) % 2147483647) : Int) fun x61 => guardR (CMulW x61 ((x61 / 2003) + 40692)) <| guardR (0 < a_many) <| .ok ((((x61 * ((x61 / 2003) + 40692)) % 2147483399) % a_many), x39))
def sp__law_draw (K : PySem.W.Frag) : Sp := fun vs H Q _ => ∃ (B : Hp) (p_well_here : Addr) (a_well_here : (List Int)) (a_many : Int), Ex B H ∧ vs = [.ref p_well_here, .int a_many] ∧ Mu K B H p_well_here (a_well_here.map enc) ∧ Post (l_draw a_well_here a_many) (fun r => RetM K p_well_here B H (enc r.1) (r.2.map enc) Q) (fun _ => False)
abbrev s__law_draw : Stmt := top 38
theorem sc__law_draw : FnScope ["_law_well_here", "_law_many", "_law_found", "_law_number"] ["_law_well_here", "_law_many"] (defScope s__law_draw) := ⟨rfl, rfl, rfl, by decide +kernel, rfl, by decide +kernel, by decide +kernel⟩
def l_whole (a_thing : D) : Res Bool :=
  (if (isA "int" a_thing) = true then .ok (!(isA "bool" a_thing)) else .ok false)
def sp__law_whole (K : PySem.W.Frag) : Sp := fun vs H Q _ => ∃ (B : Hp) (v_thing : V) (a_thing : D), Ex B H ∧ vs = [v_thing] ∧ Rep K B v_thing (enc a_thing) ∧ Post (l_whole a_thing) (fun r => Ret K [] B H (enc r) Q) (fun _ => False)
abbrev s__law_whole : Stmt := top 39
theorem sc__law_whole : FnScope ["_law_thing"] ["_law_thing"] (defScope s__law_whole) := ⟨rfl, rfl, rfl, by decide +kernel, rfl, by decide +kernel, by decide +kernel⟩
def l_back (a_well_here : (List Int)) (a_number : Int) : Res (Int × (List Int)) :=
  (l_draw a_well_here 3).bind fun x1 => (if (decide (x1.1 = 0)) = true then (l_draw x1.2 a_number).bind fun x7 => .ok ((1 + x7.1), x7.2) else (l_draw x1.2 (minI a_number 3)).bind fun x13 => .ok ((1 + x13.1), x13.2))
def sp__law_back (K : PySem.W.Frag) : Sp := fun vs H Q _ => ∃ (B : Hp) (p_well_here : Addr) (a_well_here : (List Int)) (a_number : Int), Ex B H ∧ vs = [.ref p_well_here, .int a_number] ∧ Mu K B H p_well_here (a_well_here.map enc) ∧ Post (l_back a_well_here a_number) (fun r => RetM K p_well_here B H (enc r.1) (r.2.map enc) Q) (fun _ => False)
abbrev s__law_back : Stmt := top 40
theorem sc__law_back : FnScope ["_law_well_here", "_law_number"] ["_law_well_here", "_law_number"] (defScope s__law_back) := ⟨rfl, rfl, rfl, by decide +kernel, rfl, by decide +kernel, by decide +kernel⟩
def l_rule (a_well_here : (List Int)) (a_number : Int) (a_wide : Int) : Res (D × (List Int)) :=
  (l_draw a_well_here 4).bind fun x1 => ((if (decide (a_number = 0)) = true then .ok true else .ok (decide (x1.1 = 0))) : Res Bool).bind fun b10 => (if b10 = true then (l_draw x1.2 256).bind fun x14 => .ok ((enc (⟨("plain" : Str), x14.1⟩ : (Tp2 Str Int))), x14.2) else (l_back x1.2 a_number).bind fun x25 => (l_draw x25.2 a_wide).bind fun x31 => (if (decide (x1.1 = 1)) = true then (l_draw x31.2 256).bind fun x37 => .ok ((enc (⟨("moved" : Str), x25.1, x31.1, x37.1⟩ : (Tp4 Str Int Int Int))), x37.2) else (l_back x31.2 a_number).bind fun x48 => (l_draw x48.2 a_wide).bind fun x54 => .ok ((enc (⟨("mixed" : Str), x25.1, x31.1, x48.1, x54.1⟩ : (Tp5 Str Int Int Int Int))), x54.2)))
def sp__law_rule (K : PySem.W.Frag) : Sp := fun vs H Q _ => ∃ (B : Hp) (p_well_here : Addr) (a_well_here : (List Int)) (a_number : Int) (a_wide : Int), Ex B H ∧ vs = [.ref p_well_here, .int a_number, .int a_wide] ∧ Mu K B H p_well_here (a_well_here.map enc) ∧ Post (l_rule a_well_here a_number a_wide) (fun r => RetM K p_well_here B H (enc r.1) (r.2.map enc) Q) (fun _ => False)
abbrev s__law_rule : Stmt := top 41
theorem sc__law_rule : FnScope ["_law_well_here", "_law_number", "_law_wide", "_law_way_here", "_law_first", "_law_there"] ["_law_well_here", "_law_number", "_law_wide"] (defScope s__law_rule) := ⟨rfl, rfl, rfl, by decide +kernel, rfl, by decide +kernel, by decide +kernel⟩
def l_leaf (a_well_here : (List Int)) (a_number : Int) (a_wide : Int) (a_slot : Qf) : Res (D × (List Int)) :=
  (l_draw a_well_here 6).bind fun x1 => (if (decide (x1.1 = 0)) = true then guardR (-(2 ^ 62) ≤ (a_wide : Int)) <| (compR (rngI 0 a_wide) (x1.2 : (List Int)) (fun x23 (a27 : (List Int)) => (l_draw a27 256).bind fun x40 => .ok (some x40.1, x40.2))).bind <| un2 fun acc26 a27 => .ok ((enc (⟨("full" : Str), a_slot.a, a_slot.b, (.tup (acc26.map enc) : D)⟩ : (Tp4 Str Int Int D))), a27) else ((if (decide (x1.1 = 1)) = true then .ok (decide (0 < a_number)) else .ok false) : Res Bool).bind fun b71 => (if b71 = true then (l_back x1.2 a_number).bind fun x87 => .ok ((enc (⟨("still" : Str), a_slot.a, a_slot.b, x87.1⟩ : (Tp4 Str Int Int Int))), x87.2) else guardR (-(2 ^ 62) ≤ (a_wide : Int)) <| (compR (rngI 0 a_wide) (x1.2 : (List Int)) (fun x114 (a118 : (List Int)) => (l_rule a118 a_number a_wide).bind fun x131 => .ok (some x131.1, x131.2))).bind <| un2 fun acc117 a118 => .ok ((enc (⟨("woven" : Str), a_slot.a, a_slot.b, (.tup (acc117.map enc) : D)⟩ : (Tp4 Str Int Int D))), a118)))
def sp__law_leaf (K : PySem.W.Frag) : Sp := fun vs H Q _ => ∃ (B : Hp) (p_well_here : Addr) (a_well_here : (List Int)) (a_number : Int) (a_wide : Int) (v_slot : V) (a_slot : Qf), Ex B H ∧ vs = [.ref p_well_here, .int a_number, .int a_wide, v_slot] ∧ Mu K B H p_well_here (a_well_here.map enc) ∧ Rep K B v_slot (enc a_slot) ∧ Post (l_leaf a_well_here a_number a_wide a_slot) (fun r => RetM K p_well_here B H (enc r.1) (r.2.map enc) Q) (fun _ => False)
abbrev s__law_leaf : Stmt := top 42
theorem sc__law_leaf : FnScope ["_law_well_here", "_law_number", "_law_wide", "_law_slot", "_law_way_here", "_law_k"] ["_law_well_here", "_law_number", "_law_wide", "_law_slot"] (defScope s__law_leaf) := ⟨rfl, rfl, rfl, by decide +kernel, rfl, by decide +kernel, by decide +kernel⟩
def l_slots (a_well_here : (List Int)) (a_many : Int) : Res ((List Qf) × (List Int)) :=
  (l_draw a_well_here 4).bind fun x6 => (ixR ([1, 1, 40, 1000000] : List Int) x6.1).bind fun x16 => (l_draw x6.2 3).bind fun x20 => guardR (CMulW x20.1 x16) <| lt ((x20.1 * x16) : Int) fun x26 => guardR (-(2 ^ 62) ≤ (a_many : Int) ∧ (a_many : Int) < 2 ^ 62) <| (forR (rngI 0 a_many) ((x26, x20.2, ([] : List Qf)) : Int × (List Int) × (List Qf)) (fun x43 (a42 : Int × (List Int) × (List Qf)) => (l_draw a42.2.1 (6 * x16)).bind fun x51 => lt ((1 + x51.1) : Int) fun x57 => guardR (a42.2.2.length < 1000000) <| (l_draw x51.2 4).bind fun x70 => (ixR ([0, 0, 0, 1] : List Int) x70.1).bind fun x80 => (l_draw x70.2 (3 * x16)).bind fun x84 => guardR (CMulW x80 x84.1) <| lt (((a42.1 + x57) + (x80 * x84.1)) : Int) fun x90 => .ok (.nx (x90, x84.2, (a42.2.2 ++ [(⟨a42.1, x57⟩ : Qf)]))))).bind (afterR fun a91 => .ok (a91.2.2, a91.2.1))
def sp__law_slots (K : PySem.W.Frag) : Sp := fun vs H Q _ => ∃ (B : Hp) (p_well_here : Addr) (a_well_here : (List Int)) (a_many : Int), Ex B H ∧ vs = [.ref p_well_here, .int a_many] ∧ Mu K B H p_well_here (a_well_here.map enc) ∧ Post (l_slots a_well_here a_many) (fun r => RetMF K p_well_here B H (r.1.map enc) (r.2.map enc) Q) (fun _ => False)
abbrev s__law_slots : Stmt := top 43
theorem sc__law_slots : FnScope ["_law_well_here", "_law_many", "_law_far", "_law_at", "_law_slots_here", "_law_k", "_law_lasts"] ["_law_well_here", "_law_many"] (defScope s__law_slots) := ⟨rfl, rfl, rfl, by decide +kernel, rfl, by decide +kernel, by decide +kernel⟩
def l_leaves (a_well_here : (List Int)) (a_many : Int) (a_wide : Int) : Res ((List D) × (List Int)) :=
  (l_draw a_well_here 3).bind fun x1 => lt ((decide (x1.1 = 0)) : Bool) fun x7 => (l_slots x1.2 a_many).bind fun x8 => guardR (-(2 ^ 62) ≤ (a_many : Int) ∧ (a_many : Int) < 2 ^ 62) <| (forR (rngI 0 a_many) ((x8.2, ([] : List D), x8.1) : (List Int) × (List D) × (List Qf)) (fun x37 (a36 : (List Int) × (List D) × (List Qf)) => ((if x7 = true then (l_draw a36.1 (a36.2.2.length : Int)).bind fun x52 => .ok (x52.1, x52.2) else .ok (0, a36.1)) : Res (Int × (List Int))).bind fun a58 => (popR a36.2.2 a58.1).bind fun x64 => (l_leaf a58.2 x37 a_wide x64.1).bind fun x71 => guardR (a36.2.1.length < 1000000) <| .ok (.nx (x71.2, (a36.2.1 ++ [x71.1]), x64.2)))).bind (afterR fun a79 => .ok (a79.2.1, a79.1))
def sp__law_leaves (K : PySem.W.Frag) : Sp := fun vs H Q _ => ∃ (B : Hp) (p_well_here : Addr) (a_well_here : (List Int)) (a_many : Int) (a_wide : Int), Ex B H ∧ vs = [.ref p_well_here, .int a_many, .int a_wide] ∧ Mu K B H p_well_here (a_well_here.map enc) ∧ Post (l_leaves a_well_here a_many a_wide) (fun r => RetM K p_well_here B H (enc r.1) (r.2.map enc) Q) (fun _ => False)
abbrev s__law_leaves : Stmt := top 44
theorem sc__law_leaves : FnScope ["_law_well_here", "_law_many", "_law_wide", "_law_turned", "_law_slots_here", "_law_leaves_here", "_law_number", "_law_at"] ["_law_well_here", "_law_many", "_law_wide"] (defScope s__law_leaves) := ⟨rfl, rfl, rfl, by decide +kernel, rfl, by decide +kernel, by decide +kernel⟩
def l_needs (a_leaves_here : (List D)) (a_number : Int) (a_cell : Int) : Res (List (Int × Int)) :=
  (ixR a_leaves_here a_number).bind fun x5 => (asT x5).bind fun l9 => (ixR l9 0).bind fun x16 => guardR (okEq x16 (enc ("full" : Str))) <| (if (eqD x16 (enc ("full" : Str))) = true then .ok ([] : List (Int × Int)) else (asT x5).bind fun l26 => (ixR l26 0).bind fun x33 => guardR (okEq x33 (enc ("still" : Str))) <| (if (eqD x33 (enc ("still" : Str))) = true then (asT x5).bind fun l37 => (ixR l37 3).bind fun x44 => (asI x44).bind fun i48 => .ok ([(((a_number - i48), a_cell) : Int × Int)] : List (Int × Int)) else (asT x5).bind fun l62 => (ixR l62 3).bind fun x69 => (asT x69).bind fun l73 => (ixR l73 a_cell).bind fun x80 => (asT x80).bind fun l84 => (ixR l84 0).bind fun x91 => guardR (okEq x91 (enc ("plain" : Str))) <| (if (eqD x91 (enc ("plain" : Str))) = true then .ok ([] : List (Int × Int)) else (asT x80).bind fun l101 => (ixR l101 0).bind fun x108 => guardR (okEq x108 (enc ("moved" : Str))) <| (if (eqD x108 (enc ("moved" : Str))) = true then (asT x80).bind fun l112 => (ixR l112 1).bind fun x119 => (asI x119).bind fun i123 => (asT x80).bind fun l126 => (ixR l126 2).bind fun x133 => (asI x133).bind fun i142 => .ok ([(((a_number - i123), i142) : Int × Int)] : List (Int × Int)) else (asT x80).bind fun l151 => (ixR l151 1).bind fun x158 => (asI x158).bind fun i162 => (asT x80).bind fun l165 => (ixR l165 2).bind fun x172 => (asI x172).bind fun i181 => (asT x80).bind fun l184 => (ixR l184 3).bind fun x191 => (asI x191).bind fun i195 => (asT x80).bind fun l198 => (ixR l198 4).bind fun x205 => (asI x205).bind fun i214 => .ok ([(((a_number - i162), i181) : Int × Int), (((a_number - i195), i214) : Int × Int)] : List (Int × Int))))))
def sp__law_needs (K : PySem.W.Frag) : Sp := fun vs H Q _ => ∃ (B : Hp) (v_leaves_here : V) (a_leaves_here : (List D)) (a_number : Int) (a_cell : Int), Ex B H ∧ vs = [v_leaves_here, .int a_number, .int a_cell] ∧ Bor K B H [] v_leaves_here (a_leaves_here.map enc) ∧ Post (l_needs a_leaves_here a_number a_cell) (fun r => RetF K [] B H (r.map enc) Q) (fun _ => False)
abbrev s__law_needs : Stmt := top 45
theorem sc__law_needs : FnScope ["_law_leaves_here", "_law_number", "_law_cell", "_law_leaf_here", "_law_rule_here"] ["_law_leaves_here", "_law_number", "_law_cell"] (defScope s__law_needs) := ⟨rfl, rfl, rfl, by decide +kernel, rfl, by decide +kernel, by decide +kernel⟩
def l_came (a_well_here : (List Int)) (a_many : Int) : Res ((List Int) × (List Int)) :=
  (l_draw a_well_here 6).bind fun x1 => (l_draw x1.2 a_many).bind fun x7 => (if (decide (x1.1 < 3)) = true then guardR (-(2 ^ 62) ≤ (a_many : Int)) <| (compR (rngI 0 a_many) (() : Unit) (fun x17 (a21 : Unit) => (if (!decide (x17 = x7.1)) = true then .ok (some x17, ()) else .ok (none, ())))).bind <| un2 fun acc20 a21 => .ok (acc20, x7.2) else (if (decide (x1.1 = 3)) = true then .ok (([] : List Int), x7.2) else (if (decide (x1.1 = 4)) = true then guardR (-(2 ^ 62) ≤ (a_many : Int)) <| (compR (rngI 0 a_many) (x7.2 : (List Int)) (fun x51 (a55 : (List Int)) => (l_draw a55 3).bind fun x68 => (if (decide (x68.1 = 0)) = true then .ok (some x51, x68.2) else .ok (none, x68.2)))).bind <| un2 fun acc54 a55 => .ok (acc54, a55) else guardR (-(2 ^ 62) ≤ (a_many : Int)) <| (compR (rngI 0 a_many) (x7.2 : (List Int)) (fun x86 (a90 : (List Int)) => (l_draw a90 9).bind fun x103 => (if (!decide (x103.1 = 0)) = true then .ok (some x86, x103.2) else .ok (none, x103.2)))).bind <| un2 fun acc89 a90 => .ok (acc89, a90))))
def sp__law_came (K : PySem.W.Frag) : Sp := fun vs H Q _ => ∃ (B : Hp) (p_well_here : Addr) (a_well_here : (List Int)) (a_many : Int), Ex B H ∧ vs = [.ref p_well_here, .int a_many] ∧ Mu K B H p_well_here (a_well_here.map enc) ∧ Post (l_came a_well_here a_many) (fun r => RetM K p_well_here B H (enc r.1) (r.2.map enc) Q) (fun _ => False)
abbrev s__law_came : Stmt := top 46
theorem sc__law_came : FnScope ["_law_well_here", "_law_many", "_law_way_here", "_law_gone", "_law_number"] ["_law_well_here", "_law_many"] (defScope s__law_came) := ⟨rfl, rfl, rfl, by decide +kernel, rfl, by decide +kernel, by decide +kernel⟩
def l_all_came (a_leaves_here : (List D)) (a_came_here : (List Int)) (a_number : Int) (a_cell : Int) : Res Bool :=
  (whileR (4000) ((([((a_number, a_cell) : Int × Int)] : List (Int × Int)), ([] : (List ((Int × Int) × Bool)))) : (List (Int × Int)) × (List ((Int × Int) × Bool))) (fun (a28 : (List (Int × Int)) × (List ((Int × Int) × Bool))) => guardR (okEq (enc a28.1) (enc ([] : List D))) <| (if (!(eqD (enc a28.1) (enc ([] : List D)))) = true then (popE a28.1).bind fun x44 => guardR (okEq (enc ((⟨x44.1.1, x44.1.2⟩ : Tp2 Int Int).a : Int)) (.lst (a_came_here.map enc))) <| (if (!(inD (enc ((⟨x44.1.1, x44.1.2⟩ : Tp2 Int Int).a : Int)) (a_came_here.map enc))) = true then .ok (.rt false) else (if (hasA a28.2 x44.1 != true) = true then guardR (a28.2.length < 1000000) <| (l_needs a_leaves_here ((⟨x44.1.1, x44.1.2⟩ : Tp2 Int Int).a) ((⟨x44.1.1, x44.1.2⟩ : Tp2 Int Int).b)).bind fun x72 => guardR (x44.2.length + x72.length ≤ 1000000) <| .ok (.nx ((x44.2 ++ x72), (putA a28.2 x44.1 (true : Bool)))) else .ok (.nx (x44.2, a28.2)))) else .ok (.bk (a28.1, a28.2))))).bind (afterR fun a88 => .ok true)
def sp__law_all_came (K : PySem.W.Frag) : Sp := fun vs H Q _ => ∃ (B : Hp) (v_leaves_here : V) (a_leaves_here : (List D)) (v_came_here : V) (a_came_here : (List Int)) (a_number : Int) (a_cell : Int), Ex B H ∧ vs = [v_leaves_here, v_came_here, .int a_number, .int a_cell] ∧ Bor K B H [] v_leaves_here (a_leaves_here.map enc) ∧ Rep K B v_came_here (enc a_came_here) ∧ Post (l_all_came a_leaves_here a_came_here a_number a_cell) (fun r => Ret K [] B H (enc r) Q) (fun _ => False)
abbrev s__law_all_came : Stmt := top 47
theorem sc__law_all_came : FnScope ["_law_leaves_here", "_law_came_here", "_law_number", "_law_cell", "_law_waiting", "_law_met", "_law_pair"] ["_law_leaves_here", "_law_came_here", "_law_number", "_law_cell"] (defScope s__law_all_came) := ⟨rfl, rfl, rfl, by decide +kernel, rfl, by decide +kernel, by decide +kernel⟩
def l_way (a_handed : (List (Int × K_Leaf))) (a_number : Int) (a_cell : Int) : Res D :=
  tryD (m_table a_handed a_number a_cell) (fun ⟨ec, ea⟩ => guardR (ec ∈ (["NotKnown"] : List Str)) <| guardR (ea.length = 1) <| (.ok (!true) : Res (Bool)).bind fun a27 => (if a27 = true then .ok (enc ()) else .ok (ea.headD (.non : D)))) fun x6 => .ok (.tup [] : D)
def sp__law_way (K : PySem.W.Frag) : Sp := fun vs H Q _ => ∃ (B : Hp) (p_handed : Addr) (a_handed : (List (Int × K_Leaf))) (a_number : Int) (a_cell : Int), Ex B H ∧ vs = [.ref p_handed, .int a_number, .int a_cell] ∧ MuK K B H p_handed (encA a_handed) ∧ Post (l_way a_handed a_number a_cell) (fun r => RetN K B H (enc r) Q) (fun _ => False)
abbrev s__law_way : Stmt := top 48
theorem sc__law_way : FnScope ["_law_handed", "_law_number", "_law_cell", "_law_way_here", "_law_strange", "e"] ["_law_handed", "_law_number", "_law_cell"] (defScope s__law_way) := ⟨rfl, rfl, rfl, by decide +kernel, rfl, by decide +kernel, by decide +kernel⟩
def l_way_right (a_leaves_here : (List D)) (a_came_here : (List Int)) (a_way_here : (List (Int × Int))) (a_number : Int) (a_cell : Int) : Res Bool :=
  (if (isA "list" (enc a_way_here)) = true then guardR (okEq (enc a_way_here) (enc ([] : List D))) <| (if (eqD (enc a_way_here) (enc ([] : List D))) = true then .ok false else (ixR a_way_here 0).bind fun x10 => guardR (okEq (enc x10) (enc (⟨a_number, a_cell⟩ : Qf))) <| (if (!(eqD (enc x10) (enc (⟨a_number, a_cell⟩ : Qf)))) = true then .ok false else (forR (a_way_here) (() : Unit) (fun x31 (a30 : Unit) => (if (isA "tuple" (enc x31)) = true then (if (!decide (2 = 2)) = true then .ok (.rt false) else (asT (enc (⟨x31.1, x31.2⟩ : Tp2 Int Int))).bind fun l45 => (compR (l45) (() : Unit) (fun x55 (a59 : Unit) => (l_whole x55).bind fun x72 => .ok (some x72, ()))).bind <| un2 fun acc58 a59 => (if (acc58.all id) = true then .ok (.nx ()) else .ok (.rt false))) else .ok (.rt false)))).bind (afterR fun a91 => guardR ((-(2 ^ 62) ≤ (1 : Int) ∧ (1 : Int) < 2 ^ 62) ∧ -(2 ^ 62) ≤ ((a_way_here.length : Int) : Int) ∧ ((a_way_here.length : Int) : Int) < 2 ^ 62) <| (forR (rngI 1 (a_way_here.length : Int)) (() : Unit) (fun x110 (a109 : Unit) => (ixR a_way_here (x110 - 1)).bind fun x123 => guardR (okEq (enc ((⟨x123.1, x123.2⟩ : Tp2 Int Int).a : Int)) (.lst (a_came_here.map enc))) <| (if (!(inD (enc ((⟨x123.1, x123.2⟩ : Tp2 Int Int).a : Int)) (a_came_here.map enc))) = true then .ok (.rt false) else (ixR a_way_here x110).bind fun x140 => (l_needs a_leaves_here ((⟨x123.1, x123.2⟩ : Tp2 Int Int).a) ((⟨x123.1, x123.2⟩ : Tp2 Int Int).b)).bind fun x144 => guardR (okEq (enc x140) (.lst (x144.map enc))) <| (if (!(inD (enc x140) (x144.map enc))) = true then .ok (.rt false) else .ok (.nx ()))))).bind (afterR fun a161 => (ixR a_way_here (-1)).bind fun x172 => guardR (okEq (enc ((⟨x172.1, x172.2⟩ : Tp2 Int Int).a : Int)) (.lst (a_came_here.map enc))) <| .ok (!(inD (enc ((⟨x172.1, x172.2⟩ : Tp2 Int Int).a : Int)) (a_came_here.map enc))))))) else .ok false)
def sp__law_way_right (K : PySem.W.Frag) : Sp := fun vs H Q _ => ∃ (B : Hp) (v_leaves_here : V) (a_leaves_here : (List D)) (v_came_here : V) (a_came_here : (List Int)) (v_way_here : V) (a_way_here : (List (Int × Int))) (a_number : Int) (a_cell : Int), Ex B H ∧ vs = [v_leaves_here, v_came_here, v_way_here, .int a_number, .int a_cell] ∧ Bor K B H [] v_leaves_here (a_leaves_here.map enc) ∧ Rep K B v_came_here (enc a_came_here) ∧ Rep K B v_way_here (enc a_way_here) ∧ Post (l_way_right a_leaves_here a_came_here a_way_here a_number a_cell) (fun r => Ret K [] B H (enc r) Q) (fun _ => False)
abbrev s__law_way_right : Stmt := top 49
theorem sc__law_way_right : FnScope ["_law_leaves_here", "_law_came_here", "_law_way_here", "_law_number", "_law_cell", "_law_pair", "_law_one", "_law_k", "_law_at", "_law_there"] ["_law_leaves_here", "_law_came_here", "_law_way_here", "_law_number", "_law_cell"] (defScope s__law_way_right) := ⟨rfl, rfl, rfl, by decide +kernel, rfl, by decide +kernel, by decide +kernel⟩
def l_asked (a_leaves_here : (List D)) (a_handed : (List (Int × K_Leaf))) (a_came_here : (List Int)) (a_number : Int) (a_cell : Int) : Res Bool :=
  (l_way a_handed a_number a_cell).bind fun x4 => (l_all_came a_leaves_here a_came_here a_number a_cell).bind fun x12 => (if x12 = true then guardR (okEq x4 (.tup [] : D)) <| (if (eqD x4 (.tup [] : D)) = true then ((m_table a_handed a_number a_cell).noErr).bind fun x23 => (ixR x23 (-1)).bind fun x45 => (asT (enc x45)).bind fun l50 => guardR (okEq (.tup ((cutL l50 none (some 2)).map enc) : D) (enc (⟨a_number, a_cell⟩ : Qf))) <| .ok (eqD (.tup ((cutL l50 none (some 2)).map enc) : D) (enc (⟨a_number, a_cell⟩ : Qf))) else .ok false) else (m_known a_handed a_number a_cell).bind fun x67 => (if (!(isNonD (enc x67))) = true then .ok false else (asD (List (Int × Int)) x4).bind fun x73 => (l_way_right a_leaves_here a_came_here x73 a_number a_cell).bind fun x76 => (if x76 = true then (asD (List (Int × Int)) x4).bind fun x82 => guardR (x82.length < 1000000) <| (l_way a_handed a_number a_cell).bind fun x101 => (asD (List (Int × Int)) x101).bind fun x109 => (l_way_right a_leaves_here a_came_here x109 a_number a_cell).bind fun x112 => .ok x112 else .ok false)))
def sp__law_asked (K : PySem.W.Frag) : Sp := fun vs H Q _ => ∃ (B : Hp) (v_leaves_here : V) (a_leaves_here : (List D)) (p_handed : Addr) (a_handed : (List (Int × K_Leaf))) (v_came_here : V) (a_came_here : (List Int)) (a_number : Int) (a_cell : Int), Ex B H ∧ vs = [v_leaves_here, .ref p_handed, v_came_here, .int a_number, .int a_cell] ∧ Bor K B H [] v_leaves_here (a_leaves_here.map enc) ∧ MuK K B H p_handed (encA a_handed) ∧ Rep K B v_came_here (enc a_came_here) ∧ Post (l_asked a_leaves_here a_handed a_came_here a_number a_cell) (fun r => Ret K [] B H (enc r) Q) (fun _ => False)
abbrev s__law_asked : Stmt := top 50
theorem sc__law_asked : FnScope ["_law_leaves_here", "_law_handed", "_law_came_here", "_law_number", "_law_cell", "_law_way_here"] ["_law_leaves_here", "_law_handed", "_law_came_here", "_law_number", "_law_cell"] (defScope s__law_asked) := ⟨rfl, rfl, rfl, by decide +kernel, rfl, by decide +kernel, by decide +kernel⟩
def l_chain (a_well_here : (List Int)) : Res ((List D) × (List Int)) :=
  (l_draw a_well_here 256).bind fun x1 => (forR (rngI 1 200) ((x1.2, ([(enc (⟨("full" : Str), 0, 1, (⟨x1.1⟩ : (Tp1 Int))⟩ : (Tp4 Str Int Int (Tp1 Int))))] : List D)) : (List Int) × (List D)) (fun x33 (a32 : (List Int) × (List D)) => (l_draw a32.1 256).bind fun x41 => ((if (decide (1 < x33)) = true then (l_draw x41.2 5).bind fun x55 => (if (decide (x55.1 = 0)) = true then .ok ((enc (⟨("mixed" : Str), 1, 0, 2, 0⟩ : (Tp5 Str Int Int Int Int))), x55.2) else .ok ((enc (⟨("moved" : Str), 1, 0, x41.1⟩ : (Tp4 Str Int Int Int))), x55.2)) else .ok ((enc (⟨("moved" : Str), 1, 0, x41.1⟩ : (Tp4 Str Int Int Int))), x41.2)) : Res (D × (List Int))).bind fun a66 => guardR (a32.2.length < 1000000) <| .ok (.nx (a66.2, (a32.2 ++ [(enc (⟨("woven" : Str), x33, 1, (⟨a66.1⟩ : (Tp1 D))⟩ : (Tp4 Str Int Int (Tp1 D))))]))))).bind (afterR fun a84 => .ok (a84.2, a84.1))
def sp__law_chain (K : PySem.W.Frag) : Sp := fun vs H Q _ => ∃ (B : Hp) (p_well_here : Addr) (a_well_here : (List Int)), Ex B H ∧ vs = [.ref p_well_here] ∧ Mu K B H p_well_here (a_well_here.map enc) ∧ Post (l_chain a_well_here) (fun r => RetM K p_well_here B H (enc r.1) (r.2.map enc) Q) (fun _ => False)
abbrev s__law_chain : Stmt := top 51
theorem sc__law_chain : FnScope ["_law_well_here", "_law_leaves_here", "_law_number", "_law_rule_here"] ["_law_well_here"] (defScope s__law_chain) := ⟨rfl, rfl, rfl, by decide +kernel, rfl, by decide +kernel, by decide +kernel⟩
def l_chain_right (a_well_here : (List Int)) : Res (Bool × (List Int)) :=
  (l_chain a_well_here).bind fun x1 => (l_draw x1.2 199).bind fun x7 => (l_draw x7.2 2).bind fun x18 => (ixR ([0, x7.1] : List Int) x18.1).bind fun x28 => (compR (rngI 0 200) (() : Unit) (fun x36 (a40 : Unit) => (if (!decide (x36 = x28)) = true then .ok (some x36, ()) else .ok (none, ())))).bind <| un2 fun acc39 a40 => (compR (acc39) (() : Unit) (fun x68 (a72 : Unit) => (ixR x1.1 x68).bind fun x89 => ((m_leaf_of x89).noErr).bind fun x93 => .ok (some (⟨x68, x93⟩ : (Tp2 Int K_Leaf)), ()))).bind <| un2 fun acc71 a72 => (l_asked x1.1 (mergeA [] (prsA acc71) : (List (Int × K_Leaf))) acc39 199 0).bind fun x123 => .ok (x123, x18.2)
def sp__law_chain_right (K : PySem.W.Frag) : Sp := fun vs H Q _ => ∃ (B : Hp) (p_well_here : Addr) (a_well_here : (List Int)), Ex B H ∧ vs = [.ref p_well_here] ∧ Mu K B H p_well_here (a_well_here.map enc) ∧ Post (l_chain_right a_well_here) (fun r => RetM K p_well_here B H (enc r.1) (r.2.map enc) Q) (fun _ => False)
abbrev s__law_chain_right : Stmt := top 52
theorem sc__law_chain_right : FnScope ["_law_well_here", "_law_leaves_here", "_law_gone", "_law_came_here", "_law_number"] ["_law_well_here"] (defScope s__law_chain_right) := ⟨rfl, rfl, rfl, by decide +kernel, rfl, by decide +kernel, by decide +kernel⟩
def m_law (a_script : (List Int)) : Res Bool :=
  (l_well a_script 0).bind fun x1 => (l_draw x1 16).bind fun x12 => (l_draw x12.2 4).bind fun x18 => lt (([1, 16, (1 + x12.1), (1 + x18.1)] : List Int) : (List Int)) fun x29 => (l_draw x18.2 4).bind fun x30 => (ixR x29 x30.1).bind fun x40 => lt (([4, 12, 30] : List Int) : (List Int)) fun x49 => (l_draw x30.2 3).bind fun x50 => (ixR x49 x50.1).bind fun x60 => (l_draw x50.2 x60).bind fun x64 => (l_leaves x64.2 (1 + x64.1) x40).bind fun x70 => (l_well a_script 1).bind fun x76 => (l_came x76 (x70.1.length : Int)).bind fun x92 => (compR (x92.1) (() : Unit) (fun x105 (a109 : Unit) => (ixR x70.1 x105).bind fun x126 => ((m_leaf_of x126).noErr).bind fun x130 => .ok (some (⟨x105, x130⟩ : (Tp2 Int K_Leaf)), ()))).bind <| un2 fun acc108 a109 => (l_well a_script 2).bind fun x160 => (compR (rngI 0 4) (() : Unit) (fun x177 (a181 : Unit) => guardR (0 < x40) <| .ok (some (⟨((x70.1.length : Int) - 1), (x177 % x40)⟩ : Qf), ()))).bind <| un2 fun acc180 a181 => (l_draw x160 9).bind fun x217 => lt (([(⟨((x70.1.length : Int) + x217.1), 0⟩ : Qf)] : List Qf) : (List Qf)) fun x233 => guardR (acc180.length + x233.length ≤ 1000000) <| (forR (rngI 0 4) (((acc180 ++ x233), x217.2) : (List Qf) × (List Int)) (fun x260 (a259 : (List Qf) × (List Int)) => (l_draw a259.2 (x70.1.length : Int)).bind fun x271 => (l_draw x271.2 x40).bind fun x277 => guardR (a259.1.length < 1000000) <| .ok (.nx ((a259.1 ++ [(⟨x271.1, x277.1⟩ : Qf)]), x277.2)))).bind (afterR fun a290 => lt ((cutL a290.1 none (some 2)) : (List Qf)) fun x304 => guardR (a290.1.length + x304.length ≤ 1000000) <| (forR ((a290.1 ++ x304)) (() : Unit) (fun x330 (a329 : Unit) => (l_asked x70.1 (mergeA [] (prsA acc108) : (List (Int × K_Leaf))) x92.1 x330.a x330.b).bind fun x346 => (if x346 = true then .ok (.nx ()) else .ok (.rt false)))).bind (afterR fun a352 => ((l_well a_script 5).bind fun x361 => (l_draw x361 8).bind fun x377 => (if (decide (x377.1 = 0)) = true then (l_well a_script 6).bind fun x383 => (l_chain_right x383).bind fun x399 => .ok (!x399.1) else .ok false) : Res Bool).bind fun b405 => (if b405 = true then .ok false else lt (((mergeA [] (prsA acc108) : (List (Int × K_Leaf))).map (·.1)) : (List Int)) fun x419 => guardR (okEq (enc (sortI x419)) (enc x92.1)) <| .ok (eqD (enc (sortI x419)) (enc x92.1)))))
def sp_law (K : PySem.W.Frag) : Sp := fun vs H Q _ => ∃ (B : Hp) (v_script : V) (a_script : (List Int)), Ex B H ∧ vs = [v_script] ∧ Bor K B H [] v_script (a_script.map enc) ∧ Post (m_law a_script) (fun r => Ret K [] B H (enc r) Q) (fun _ => False)
abbrev s_law : Stmt := top 53
theorem sc_law : FnScope ["_law_script", "_law_well_here", "_law_wide", "_law_leaves_here", "_law_came_here", "_law_handed", "_law_number", "_law_asking", "_law_pairs", "_law_k", "_law_cell"] ["_law_script"] (defScope s_law) := ⟨rfl, rfl, rfl, by decide +kernel, rfl, by decide +kernel, by decide +kernel⟩
def dH_0 : He.DefD := ⟨("needs_of", none), "needs_of", "needs_of", defArgs s_needs_of, defBody s_needs_of, defScope s_needs_of, [], []⟩
def dH_1 : He.DefD := ⟨("hung", none), "hung", "hung", defArgs s_hung, defBody s_hung, defScope s_hung, [], []⟩
def dH_2 : He.DefD := ⟨("values_of", none), "values_of", "values_of", defArgs s_values_of, defBody s_values_of, defScope s_values_of, [], []⟩
def dH_3 : He.DefD := ⟨("all_came", none), "all_came", "all_came", defArgs s_all_came, defBody s_all_came, defScope s_all_came, [], []⟩
def dH_4 : He.DefD := ⟨("known", none), "known", "known", defArgs s_known, defBody s_known, defScope s_known, [], []⟩
def dH_5 : He.DefD := ⟨("way_out", none), "way_out", "way_out", defArgs s_way_out, defBody s_way_out, defScope s_way_out, [], []⟩
def dH_6 : He.DefD := ⟨("table", none), "table", "table", defArgs s_table, defBody s_table, defScope s_table, [], []⟩
def dH_7 : He.DefD := ⟨("is_whole", none), "is_whole", "is_whole", defArgs s_is_whole, defBody s_is_whole, defScope s_is_whole, [], []⟩
def dH_8 : He.DefD := ⟨("is_need", none), "is_need", "is_need", defArgs s_is_need, defBody s_is_need, defScope s_is_need, [], []⟩
def dH_9 : He.DefD := ⟨("rule_of", none), "rule_of", "rule_of", defArgs s_rule_of, defBody s_rule_of, defScope s_rule_of, [], []⟩
def dH_10 : He.DefD := ⟨("is_value", none), "is_value", "is_value", defArgs s_is_value, defBody s_is_value, defScope s_is_value, [], []⟩
def dH_11 : He.DefD := ⟨("is_rule", none), "is_rule", "is_rule", defArgs s_is_rule, defBody s_is_rule, defScope s_is_rule, [], []⟩
def dH_12 : He.DefD := ⟨("is_row_of", none), "is_row_of", "is_row_of", defArgs s_is_row_of__is_value, defBody s_is_row_of__is_value, defScope s_is_row_of__is_value, [], []⟩
def dH_13 : He.DefD := ⟨("leaf_of", none), "leaf_of", "leaf_of", defArgs s_leaf_of, defBody s_leaf_of, defScope s_leaf_of, [], []⟩
def dH_14 : He.DefD := ⟨("_law_cell_at", none), "_law_cell_at", "_law_cell_at", defArgs s__law_cell_at, defBody s__law_cell_at, defScope s__law_cell_at, [], []⟩
def dH_15 : He.DefD := ⟨("_law_well", none), "_law_well", "_law_well", defArgs s__law_well, defBody s__law_well, defScope s__law_well, [], []⟩
def dH_16 : He.DefD := ⟨("_law_draw", none), "_law_draw", "_law_draw", defArgs s__law_draw, defBody s__law_draw, defScope s__law_draw, [], []⟩
def dH_17 : He.DefD := ⟨("_law_whole", none), "_law_whole", "_law_whole", defArgs s__law_whole, defBody s__law_whole, defScope s__law_whole, [], []⟩
def dH_18 : He.DefD := ⟨("_law_back", none), "_law_back", "_law_back", defArgs s__law_back, defBody s__law_back, defScope s__law_back, [], []⟩
def dH_19 : He.DefD := ⟨("_law_rule", none), "_law_rule", "_law_rule", defArgs s__law_rule, defBody s__law_rule, defScope s__law_rule, [], []⟩
def dH_20 : He.DefD := ⟨("_law_leaf", none), "_law_leaf", "_law_leaf", defArgs s__law_leaf, defBody s__law_leaf, defScope s__law_leaf, [], []⟩
def dH_21 : He.DefD := ⟨("_law_slots", none), "_law_slots", "_law_slots", defArgs s__law_slots, defBody s__law_slots, defScope s__law_slots, [], []⟩
def dH_22 : He.DefD := ⟨("_law_leaves", none), "_law_leaves", "_law_leaves", defArgs s__law_leaves, defBody s__law_leaves, defScope s__law_leaves, [], []⟩
def dH_23 : He.DefD := ⟨("_law_needs", none), "_law_needs", "_law_needs", defArgs s__law_needs, defBody s__law_needs, defScope s__law_needs, [], []⟩
def dH_24 : He.DefD := ⟨("_law_came", none), "_law_came", "_law_came", defArgs s__law_came, defBody s__law_came, defScope s__law_came, [], []⟩
def dH_25 : He.DefD := ⟨("_law_all_came", none), "_law_all_came", "_law_all_came", defArgs s__law_all_came, defBody s__law_all_came, defScope s__law_all_came, [], []⟩
def dH_26 : He.DefD := ⟨("_law_way", none), "_law_way", "_law_way", defArgs s__law_way, defBody s__law_way, defScope s__law_way, [], []⟩
def dH_27 : He.DefD := ⟨("_law_way_right", none), "_law_way_right", "_law_way_right", defArgs s__law_way_right, defBody s__law_way_right, defScope s__law_way_right, [], []⟩
def dH_28 : He.DefD := ⟨("_law_asked", none), "_law_asked", "_law_asked", defArgs s__law_asked, defBody s__law_asked, defScope s__law_asked, [], []⟩
def dH_29 : He.DefD := ⟨("_law_chain", none), "_law_chain", "_law_chain", defArgs s__law_chain, defBody s__law_chain, defScope s__law_chain, [], []⟩
def dH_30 : He.DefD := ⟨("_law_chain_right", none), "_law_chain_right", "_law_chain_right", defArgs s__law_chain_right, defBody s__law_chain_right, defScope s__law_chain_right, [], []⟩
def dH_31 : He.DefD := ⟨("law", none), "law", "law", defArgs s_law, defBody s_law, defScope s_law, [], []⟩
def dH_32 : He.DefD := ⟨("Plain", some "needs"), "needs", "Rule.needs", defArgs s_Plain__needs, defBody s_Plain__needs, defScope s_Plain__needs, [], []⟩
def dH_33 : He.DefD := ⟨("Plain", some "value"), "value", "Plain.value", defArgs s_Plain__value, defBody s_Plain__value, defScope s_Plain__value, [], []⟩
def dH_34 : He.DefD := ⟨("Plain", some "__init__"), "__init__", "Plain.__init__", defArgs s_Plain____init__, defBody s_Plain____init__, defScope s_Plain____init__, [], []⟩
def dH_35 : He.DefD := ⟨("Moved", some "needs"), "needs", "Moved.needs", defArgs s_Moved__needs, defBody s_Moved__needs, defScope s_Moved__needs, [], []⟩
def dH_36 : He.DefD := ⟨("Moved", some "value"), "value", "Moved.value", defArgs s_Moved__value, defBody s_Moved__value, defScope s_Moved__value, [], []⟩
def dH_37 : He.DefD := ⟨("Moved", some "__init__"), "__init__", "Moved.__init__", defArgs s_Moved____init__, defBody s_Moved____init__, defScope s_Moved____init__, [], []⟩
def dH_38 : He.DefD := ⟨("Mixed", some "needs"), "needs", "Mixed.needs", defArgs s_Mixed__needs, defBody s_Mixed__needs, defScope s_Mixed__needs, [], []⟩
def dH_39 : He.DefD := ⟨("Mixed", some "value"), "value", "Mixed.value", defArgs s_Mixed__value, defBody s_Mixed__value, defScope s_Mixed__value, [], []⟩
def dH_40 : He.DefD := ⟨("Mixed", some "__init__"), "__init__", "Mixed.__init__", defArgs s_Mixed____init__, defBody s_Mixed____init__, defScope s_Mixed____init__, [], []⟩
def dH_41 : He.DefD := ⟨("Full", some "rule"), "rule", "Full.rule", defArgs s_Full__rule, defBody s_Full__rule, defScope s_Full__rule, [], []⟩
def dH_42 : He.DefD := ⟨("Full", some "__init__"), "__init__", "Full.__init__", defArgs s_Full____init__, defBody s_Full____init__, defScope s_Full____init__, [], []⟩
def dH_43 : He.DefD := ⟨("Still", some "rule"), "rule", "Still.rule", defArgs s_Still__rule, defBody s_Still__rule, defScope s_Still__rule, [], []⟩
def dH_44 : He.DefD := ⟨("Still", some "__init__"), "__init__", "Still.__init__", defArgs s_Still____init__, defBody s_Still____init__, defScope s_Still____init__, [], []⟩
def dH_45 : He.DefD := ⟨("Woven", some "rule"), "rule", "Woven.rule", defArgs s_Woven__rule, defBody s_Woven__rule, defScope s_Woven__rule, [], []⟩
def dH_46 : He.DefD := ⟨("Woven", some "__init__"), "__init__", "Woven.__init__", defArgs s_Woven____init__, defBody s_Woven____init__, defScope s_Woven____init__, [], []⟩
def dH_47 : He.DefD := ⟨("NotKnown", some "__init__"), "__init__", "NotKnown.__init__", defArgs s_NotKnown____init__, defBody s_NotKnown____init__, defScope s_NotKnown____init__, [], []⟩
def dH_48 : He.DefD := ⟨("Leaf", some "__init__"), "__init__", "Leaf.__init__", defArgs s_Leaf____init__, defBody s_Leaf____init__, defScope s_Leaf____init__, [], []⟩
def tfH : List He.Defn := []
def fnH : List He.DefD := ([dH_0, dH_1, dH_2, dH_3, dH_4, dH_5, dH_6, dH_7, dH_8, dH_9, dH_10, dH_11, dH_12, dH_13, dH_14, dH_15, dH_16, dH_17, dH_18, dH_19, dH_20, dH_21, dH_22, dH_23, dH_24, dH_25, dH_26, dH_27, dH_28, dH_29] : List He.DefD) ++ ([dH_30, dH_31, dH_32, dH_33, dH_34, dH_35, dH_36, dH_37, dH_38, dH_39, dH_40, dH_41, dH_42, dH_43, dH_44, dH_45, dH_46, dH_47, dH_48] : List He.DefD)
def exH_0 (K : PySem.W.Frag) : List Bool := [decide (PySem.W.nsIn K mainGlobals "Moved" = some (some (.ref (He.ga K "Moved")))),
  decide (PySem.W.plainGet K (He.ga K "Moved") Str.empty = true),
  decide (PySem.W.hasDictIn K (He.ga K "Moved") = true),
  decide (PySem.W.plainOver K (He.ga K "Moved") = true),
  decide (PySem.W.findIn K (.ref (He.ga K "Moved")) "__setattr__" = some (some (.builtin "object.__setattr__"))),
  decide (PySem.W.findIn K (.ref (He.ga K "Moved")) "__class__" = some (some (.builtin "object.__class__"))),
  decide (PySem.W.mroIn K (He.ga K "Moved") (.type "object") = some true),
  decide (PySem.W.typeIn K (.ref (He.ga K "Moved")) = some (.type "type")),
  decide (PySem.W.isClsIn K (He.ga K "Moved") = true),
  decide (PySem.W.subIn K (.ref (He.ga K "Moved")) (.ref (He.ga K "Moved")) = some true),
  decide (PySem.W.subIn K (.ref (He.ga K "Moved")) (.type "bool") = some false),
  decide (PySem.W.subIn K (.ref (He.ga K "Moved")) (.type "int") = some false),
  decide (PySem.W.subIn K (.ref (He.ga K "Moved")) (.type "str") = some false),
  decide (PySem.W.subIn K (.ref (He.ga K "Moved")) (.type "list") = some false),
  decide (PySem.W.subIn K (.ref (He.ga K "Moved")) (.type "tuple") = some false),
  decide (PySem.W.subIn K (.ref (He.ga K "Moved")) (.type "dict") = some false),
  decide (PySem.W.makesIn K (He.ga K "Moved") = true),
  decide (PySem.W.keepIn K (.ref (He.ga K "Moved")) = true),
  decide (PySem.W.nsIn K mainGlobals "Mixed" = some (some (.ref (He.ga K "Mixed")))),
  decide (PySem.W.plainGet K (He.ga K "Mixed") Str.empty = true),
  decide (PySem.W.hasDictIn K (He.ga K "Mixed") = true),
  decide (PySem.W.plainOver K (He.ga K "Mixed") = true),
  decide (PySem.W.findIn K (.ref (He.ga K "Mixed")) "__setattr__" = some (some (.builtin "object.__setattr__"))),
  decide (PySem.W.findIn K (.ref (He.ga K "Mixed")) "__class__" = some (some (.builtin "object.__class__"))),
  decide (PySem.W.mroIn K (He.ga K "Mixed") (.type "object") = some true)]
def exH_1 (K : PySem.W.Frag) : List Bool := [decide (PySem.W.typeIn K (.ref (He.ga K "Mixed")) = some (.type "type")),
  decide (PySem.W.isClsIn K (He.ga K "Mixed") = true),
  decide (PySem.W.subIn K (.ref (He.ga K "Mixed")) (.ref (He.ga K "Mixed")) = some true),
  decide (PySem.W.subIn K (.ref (He.ga K "Mixed")) (.type "bool") = some false),
  decide (PySem.W.subIn K (.ref (He.ga K "Mixed")) (.type "int") = some false),
  decide (PySem.W.subIn K (.ref (He.ga K "Mixed")) (.type "str") = some false),
  decide (PySem.W.subIn K (.ref (He.ga K "Mixed")) (.type "list") = some false),
  decide (PySem.W.subIn K (.ref (He.ga K "Mixed")) (.type "tuple") = some false),
  decide (PySem.W.subIn K (.ref (He.ga K "Mixed")) (.type "dict") = some false),
  decide (PySem.W.makesIn K (He.ga K "Mixed") = true),
  decide (PySem.W.keepIn K (.ref (He.ga K "Mixed")) = true),
  decide (PySem.W.nsIn K mainGlobals "Full" = some (some (.ref (He.ga K "Full")))),
  decide (PySem.W.plainGet K (He.ga K "Full") Str.empty = true),
  decide (PySem.W.hasDictIn K (He.ga K "Full") = true),
  decide (PySem.W.plainOver K (He.ga K "Full") = true),
  decide (PySem.W.findIn K (.ref (He.ga K "Full")) "__setattr__" = some (some (.builtin "object.__setattr__"))),
  decide (PySem.W.findIn K (.ref (He.ga K "Full")) "__class__" = some (some (.builtin "object.__class__"))),
  decide (PySem.W.mroIn K (He.ga K "Full") (.type "object") = some true),
  decide (PySem.W.typeIn K (.ref (He.ga K "Full")) = some (.type "type")),
  decide (PySem.W.isClsIn K (He.ga K "Full") = true),
  decide (PySem.W.subIn K (.ref (He.ga K "Full")) (.ref (He.ga K "Full")) = some true),
  decide (PySem.W.subIn K (.ref (He.ga K "Full")) (.type "bool") = some false),
  decide (PySem.W.subIn K (.ref (He.ga K "Full")) (.type "int") = some false),
  decide (PySem.W.subIn K (.ref (He.ga K "Full")) (.type "str") = some false),
  decide (PySem.W.subIn K (.ref (He.ga K "Full")) (.type "list") = some false)]
def exH_2 (K : PySem.W.Frag) : List Bool := [decide (PySem.W.subIn K (.ref (He.ga K "Full")) (.type "tuple") = some false),
  decide (PySem.W.subIn K (.ref (He.ga K "Full")) (.type "dict") = some false),
  decide (PySem.W.makesIn K (He.ga K "Full") = true),
  decide (PySem.W.keepIn K (.ref (He.ga K "Full")) = true),
  decide (PySem.W.nsIn K mainGlobals "Plain" = some (some (.ref (He.ga K "Plain")))),
  decide (PySem.W.plainGet K (He.ga K "Plain") Str.empty = true),
  decide (PySem.W.hasDictIn K (He.ga K "Plain") = true),
  decide (PySem.W.plainOver K (He.ga K "Plain") = true),
  decide (PySem.W.findIn K (.ref (He.ga K "Plain")) "__setattr__" = some (some (.builtin "object.__setattr__"))),
  decide (PySem.W.findIn K (.ref (He.ga K "Plain")) "__class__" = some (some (.builtin "object.__class__"))),
  decide (PySem.W.mroIn K (He.ga K "Plain") (.type "object") = some true),
  decide (PySem.W.typeIn K (.ref (He.ga K "Plain")) = some (.type "type")),
  decide (PySem.W.isClsIn K (He.ga K "Plain") = true),
  decide (PySem.W.subIn K (.ref (He.ga K "Plain")) (.ref (He.ga K "Plain")) = some true),
  decide (PySem.W.subIn K (.ref (He.ga K "Plain")) (.type "bool") = some false),
  decide (PySem.W.subIn K (.ref (He.ga K "Plain")) (.type "int") = some false),
  decide (PySem.W.subIn K (.ref (He.ga K "Plain")) (.type "str") = some false),
  decide (PySem.W.subIn K (.ref (He.ga K "Plain")) (.type "list") = some false),
  decide (PySem.W.subIn K (.ref (He.ga K "Plain")) (.type "tuple") = some false),
  decide (PySem.W.subIn K (.ref (He.ga K "Plain")) (.type "dict") = some false),
  decide (PySem.W.makesIn K (He.ga K "Plain") = true),
  decide (PySem.W.keepIn K (.ref (He.ga K "Plain")) = true),
  decide (PySem.W.nsIn K mainGlobals "Still" = some (some (.ref (He.ga K "Still")))),
  decide (PySem.W.plainGet K (He.ga K "Still") Str.empty = true),
  decide (PySem.W.hasDictIn K (He.ga K "Still") = true)]
def exH_3 (K : PySem.W.Frag) : List Bool := [decide (PySem.W.plainOver K (He.ga K "Still") = true),
  decide (PySem.W.findIn K (.ref (He.ga K "Still")) "__setattr__" = some (some (.builtin "object.__setattr__"))),
  decide (PySem.W.findIn K (.ref (He.ga K "Still")) "__class__" = some (some (.builtin "object.__class__"))),
  decide (PySem.W.mroIn K (He.ga K "Still") (.type "object") = some true),
  decide (PySem.W.typeIn K (.ref (He.ga K "Still")) = some (.type "type")),
  decide (PySem.W.isClsIn K (He.ga K "Still") = true),
  decide (PySem.W.subIn K (.ref (He.ga K "Still")) (.ref (He.ga K "Still")) = some true),
  decide (PySem.W.subIn K (.ref (He.ga K "Still")) (.type "bool") = some false),
  decide (PySem.W.subIn K (.ref (He.ga K "Still")) (.type "int") = some false),
  decide (PySem.W.subIn K (.ref (He.ga K "Still")) (.type "str") = some false),
  decide (PySem.W.subIn K (.ref (He.ga K "Still")) (.type "list") = some false),
  decide (PySem.W.subIn K (.ref (He.ga K "Still")) (.type "tuple") = some false),
  decide (PySem.W.subIn K (.ref (He.ga K "Still")) (.type "dict") = some false),
  decide (PySem.W.makesIn K (He.ga K "Still") = true),
  decide (PySem.W.keepIn K (.ref (He.ga K "Still")) = true),
  decide (PySem.W.nsIn K mainGlobals "Woven" = some (some (.ref (He.ga K "Woven")))),
  decide (PySem.W.plainGet K (He.ga K "Woven") Str.empty = true),
  decide (PySem.W.hasDictIn K (He.ga K "Woven") = true),
  decide (PySem.W.plainOver K (He.ga K "Woven") = true),
  decide (PySem.W.findIn K (.ref (He.ga K "Woven")) "__setattr__" = some (some (.builtin "object.__setattr__"))),
  decide (PySem.W.findIn K (.ref (He.ga K "Woven")) "__class__" = some (some (.builtin "object.__class__"))),
  decide (PySem.W.mroIn K (He.ga K "Woven") (.type "object") = some true),
  decide (PySem.W.typeIn K (.ref (He.ga K "Woven")) = some (.type "type")),
  decide (PySem.W.isClsIn K (He.ga K "Woven") = true),
  decide (PySem.W.subIn K (.ref (He.ga K "Woven")) (.ref (He.ga K "Woven")) = some true)]
def exH_4 (K : PySem.W.Frag) : List Bool := [decide (PySem.W.subIn K (.ref (He.ga K "Woven")) (.type "bool") = some false),
  decide (PySem.W.subIn K (.ref (He.ga K "Woven")) (.type "int") = some false),
  decide (PySem.W.subIn K (.ref (He.ga K "Woven")) (.type "str") = some false),
  decide (PySem.W.subIn K (.ref (He.ga K "Woven")) (.type "list") = some false),
  decide (PySem.W.subIn K (.ref (He.ga K "Woven")) (.type "tuple") = some false),
  decide (PySem.W.subIn K (.ref (He.ga K "Woven")) (.type "dict") = some false),
  decide (PySem.W.makesIn K (He.ga K "Woven") = true),
  decide (PySem.W.keepIn K (.ref (He.ga K "Woven")) = true),
  decide (PySem.W.nsIn K mainGlobals "Leaf" = some (some (.ref (He.ga K "Leaf")))),
  decide (PySem.W.plainGet K (He.ga K "Leaf") Str.empty = true),
  decide (PySem.W.hasDictIn K (He.ga K "Leaf") = true),
  decide (PySem.W.plainOver K (He.ga K "Leaf") = true),
  decide (PySem.W.findIn K (.ref (He.ga K "Leaf")) "__setattr__" = some (some (.builtin "object.__setattr__"))),
  decide (PySem.W.findIn K (.ref (He.ga K "Leaf")) "__class__" = some (some (.builtin "object.__class__"))),
  decide (PySem.W.mroIn K (He.ga K "Leaf") (.type "object") = some true),
  decide (PySem.W.typeIn K (.ref (He.ga K "Leaf")) = some (.type "type")),
  decide (PySem.W.isClsIn K (He.ga K "Leaf") = true),
  decide (PySem.W.subIn K (.ref (He.ga K "Leaf")) (.ref (He.ga K "Leaf")) = some true),
  decide (PySem.W.subIn K (.ref (He.ga K "Leaf")) (.type "bool") = some false),
  decide (PySem.W.subIn K (.ref (He.ga K "Leaf")) (.type "int") = some false),
  decide (PySem.W.subIn K (.ref (He.ga K "Leaf")) (.type "str") = some false),
  decide (PySem.W.subIn K (.ref (He.ga K "Leaf")) (.type "list") = some false),
  decide (PySem.W.subIn K (.ref (He.ga K "Leaf")) (.type "tuple") = some false),
  decide (PySem.W.subIn K (.ref (He.ga K "Leaf")) (.type "dict") = some false),
  decide (PySem.W.findIn K (.ref (He.ga K "Moved")) "back" = some none)]
def exH_5 (K : PySem.W.Frag) : List Bool := [decide (PySem.W.findIn K (.ref (He.ga K "Moved")) "cell" = some none),
  decide (PySem.W.findIn K (.ref (He.ga K "Mixed")) "back" = some none),
  decide (PySem.W.findIn K (.ref (He.ga K "Mixed")) "cell" = some none),
  decide (PySem.W.findIn K (.ref (He.ga K "Mixed")) "other_back" = some none),
  decide (PySem.W.findIn K (.ref (He.ga K "Mixed")) "other_cell" = some none),
  decide (PySem.W.findIn K (.ref (He.ga K "Full")) "worths" = some none),
  decide (PySem.W.findIn K (.ref (He.ga K "Still")) "back" = some none),
  decide (PySem.W.findIn K (.ref (He.ga K "Woven")) "rules" = some none),
  decide (PySem.W.findIn K (.ref (He.ga K "Plain")) "worth" = some none),
  decide (PySem.W.findIn K (.ref (He.ga K "Moved")) "add" = some none),
  decide (PySem.W.findIn K (.ref (He.ga K "Full")) "begin" = some none),
  decide (PySem.W.findIn K (.ref (He.ga K "Full")) "span" = some none),
  decide (PySem.W.findIn K (.ref (He.ga K "Still")) "begin" = some none),
  decide (PySem.W.findIn K (.ref (He.ga K "Still")) "span" = some none),
  decide (PySem.W.findIn K (.ref (He.ga K "Woven")) "begin" = some none),
  decide (PySem.W.findIn K (.ref (He.ga K "Woven")) "span" = some none),
  decide (PySem.W.nsIn K mainGlobals "needs_of" = some (some (.ref (He.fAd K ("needs_of", none))))),
  decide (PySem.W.nsIn K mainGlobals "hung" = some (some (.ref (He.fAd K ("hung", none))))),
  decide (PySem.W.nsIn K mainGlobals "values_of" = some (some (.ref (He.fAd K ("values_of", none))))),
  decide (PySem.W.nsIn K mainGlobals "all_came" = some (some (.ref (He.fAd K ("all_came", none))))),
  decide (PySem.W.nsIn K mainGlobals "known" = some (some (.ref (He.fAd K ("known", none))))),
  decide (PySem.W.nsIn K mainGlobals "way_out" = some (some (.ref (He.fAd K ("way_out", none))))),
  decide (PySem.W.nsIn K mainGlobals "table" = some (some (.ref (He.fAd K ("table", none))))),
  decide (PySem.W.nsIn K mainGlobals "is_whole" = some (some (.ref (He.fAd K ("is_whole", none))))),
  decide (PySem.W.nsIn K mainGlobals "is_need" = some (some (.ref (He.fAd K ("is_need", none)))))]
def exH_6 (K : PySem.W.Frag) : List Bool := [decide (PySem.W.nsIn K mainGlobals "rule_of" = some (some (.ref (He.fAd K ("rule_of", none))))),
  decide (PySem.W.nsIn K mainGlobals "is_value" = some (some (.ref (He.fAd K ("is_value", none))))),
  decide (PySem.W.nsIn K mainGlobals "is_rule" = some (some (.ref (He.fAd K ("is_rule", none))))),
  decide (PySem.W.nsIn K mainGlobals "is_row_of" = some (some (.ref (He.fAd K ("is_row_of", none))))),
  decide (PySem.W.nsIn K mainGlobals "leaf_of" = some (some (.ref (He.fAd K ("leaf_of", none))))),
  decide (PySem.W.nsIn K mainGlobals "_law_cell_at" = some (some (.ref (He.fAd K ("_law_cell_at", none))))),
  decide (PySem.W.nsIn K mainGlobals "_law_well" = some (some (.ref (He.fAd K ("_law_well", none))))),
  decide (PySem.W.nsIn K mainGlobals "_law_draw" = some (some (.ref (He.fAd K ("_law_draw", none))))),
  decide (PySem.W.nsIn K mainGlobals "_law_whole" = some (some (.ref (He.fAd K ("_law_whole", none))))),
  decide (PySem.W.nsIn K mainGlobals "_law_back" = some (some (.ref (He.fAd K ("_law_back", none))))),
  decide (PySem.W.nsIn K mainGlobals "_law_rule" = some (some (.ref (He.fAd K ("_law_rule", none))))),
  decide (PySem.W.nsIn K mainGlobals "_law_leaf" = some (some (.ref (He.fAd K ("_law_leaf", none))))),
  decide (PySem.W.nsIn K mainGlobals "_law_slots" = some (some (.ref (He.fAd K ("_law_slots", none))))),
  decide (PySem.W.nsIn K mainGlobals "_law_leaves" = some (some (.ref (He.fAd K ("_law_leaves", none))))),
  decide (PySem.W.nsIn K mainGlobals "_law_needs" = some (some (.ref (He.fAd K ("_law_needs", none))))),
  decide (PySem.W.nsIn K mainGlobals "_law_came" = some (some (.ref (He.fAd K ("_law_came", none))))),
  decide (PySem.W.nsIn K mainGlobals "_law_all_came" = some (some (.ref (He.fAd K ("_law_all_came", none))))),
  decide (PySem.W.nsIn K mainGlobals "_law_way" = some (some (.ref (He.fAd K ("_law_way", none))))),
  decide (PySem.W.nsIn K mainGlobals "_law_way_right" = some (some (.ref (He.fAd K ("_law_way_right", none))))),
  decide (PySem.W.nsIn K mainGlobals "_law_asked" = some (some (.ref (He.fAd K ("_law_asked", none))))),
  decide (PySem.W.nsIn K mainGlobals "_law_chain" = some (some (.ref (He.fAd K ("_law_chain", none))))),
  decide (PySem.W.nsIn K mainGlobals "_law_chain_right" = some (some (.ref (He.fAd K ("_law_chain_right", none))))),
  decide (PySem.W.nsIn K mainGlobals "law" = some (some (.ref (He.fAd K ("law", none))))),
  decide (PySem.W.findIn K (.ref (He.ga K "Plain")) "needs" = some (some (.ref (He.fAd K ("Plain", some "needs"))))),
  decide (PySem.W.isFn K (.ref (He.fAd K ("Plain", some "needs"))) = true)]
def exH_7 (K : PySem.W.Frag) : List Bool := [decide (PySem.W.findIn K (.ref (He.ga K "Plain")) "value" = some (some (.ref (He.fAd K ("Plain", some "value"))))),
  decide (PySem.W.isFn K (.ref (He.fAd K ("Plain", some "value"))) = true),
  decide (PySem.W.findIn K (.ref (He.ga K "Plain")) "__init__" = some (some (.ref (He.fAd K ("Plain", some "__init__"))))),
  decide (PySem.W.isFn K (.ref (He.fAd K ("Plain", some "__init__"))) = true),
  decide (PySem.W.findIn K (.ref (He.ga K "Moved")) "needs" = some (some (.ref (He.fAd K ("Moved", some "needs"))))),
  decide (PySem.W.isFn K (.ref (He.fAd K ("Moved", some "needs"))) = true),
  decide (PySem.W.findIn K (.ref (He.ga K "Moved")) "value" = some (some (.ref (He.fAd K ("Moved", some "value"))))),
  decide (PySem.W.isFn K (.ref (He.fAd K ("Moved", some "value"))) = true),
  decide (PySem.W.findIn K (.ref (He.ga K "Moved")) "__init__" = some (some (.ref (He.fAd K ("Moved", some "__init__"))))),
  decide (PySem.W.isFn K (.ref (He.fAd K ("Moved", some "__init__"))) = true),
  decide (PySem.W.findIn K (.ref (He.ga K "Mixed")) "needs" = some (some (.ref (He.fAd K ("Mixed", some "needs"))))),
  decide (PySem.W.isFn K (.ref (He.fAd K ("Mixed", some "needs"))) = true),
  decide (PySem.W.findIn K (.ref (He.ga K "Mixed")) "value" = some (some (.ref (He.fAd K ("Mixed", some "value"))))),
  decide (PySem.W.isFn K (.ref (He.fAd K ("Mixed", some "value"))) = true),
  decide (PySem.W.findIn K (.ref (He.ga K "Mixed")) "__init__" = some (some (.ref (He.fAd K ("Mixed", some "__init__"))))),
  decide (PySem.W.isFn K (.ref (He.fAd K ("Mixed", some "__init__"))) = true),
  decide (PySem.W.findIn K (.ref (He.ga K "Full")) "rule" = some (some (.ref (He.fAd K ("Full", some "rule"))))),
  decide (PySem.W.isFn K (.ref (He.fAd K ("Full", some "rule"))) = true),
  decide (PySem.W.findIn K (.ref (He.ga K "Full")) "__init__" = some (some (.ref (He.fAd K ("Full", some "__init__"))))),
  decide (PySem.W.isFn K (.ref (He.fAd K ("Full", some "__init__"))) = true),
  decide (PySem.W.findIn K (.ref (He.ga K "Still")) "rule" = some (some (.ref (He.fAd K ("Still", some "rule"))))),
  decide (PySem.W.isFn K (.ref (He.fAd K ("Still", some "rule"))) = true),
  decide (PySem.W.findIn K (.ref (He.ga K "Still")) "__init__" = some (some (.ref (He.fAd K ("Still", some "__init__"))))),
  decide (PySem.W.isFn K (.ref (He.fAd K ("Still", some "__init__"))) = true),
  decide (PySem.W.findIn K (.ref (He.ga K "Woven")) "rule" = some (some (.ref (He.fAd K ("Woven", some "rule")))))]
def exH_8 (K : PySem.W.Frag) : List Bool := [decide (PySem.W.isFn K (.ref (He.fAd K ("Woven", some "rule"))) = true),
  decide (PySem.W.findIn K (.ref (He.ga K "Woven")) "__init__" = some (some (.ref (He.fAd K ("Woven", some "__init__"))))),
  decide (PySem.W.isFn K (.ref (He.fAd K ("Woven", some "__init__"))) = true),
  decide (PySem.W.findIn K (.ref (He.ga K "NotKnown")) "__init__" = some (some (.ref (He.fAd K ("NotKnown", some "__init__"))))),
  decide (PySem.W.isFn K (.ref (He.fAd K ("NotKnown", some "__init__"))) = true),
  decide (PySem.W.findIn K (.ref (He.ga K "Leaf")) "__init__" = some (some (.ref (He.fAd K ("Leaf", some "__init__"))))),
  decide (PySem.W.isFn K (.ref (He.fAd K ("Leaf", some "__init__"))) = true),
  decide (PySem.W.readsIn K (He.ga K "Leaf") (.type "type") = true),
  decide (PySem.W.specialIn K (.ref (He.ga K "Leaf")) "__getattribute__" = some (some (.builtin "type.__getattribute__"))),
  decide (findB K (.ref (He.ga K "Leaf")) (.type "type") "__init__" (He.fAd K ("Leaf", some "__init__")) = true),
  decide (PySem.W.nsIn K mainGlobals "NoCell" = some (some (.ref (He.ga K "NoCell")))),
  decide (PySem.W.findIn K (.ref (He.ga K "NoCell")) "__getattribute__" = some (some (.builtin "BaseException.__getattribute__"))),
  decide (PySem.W.findIn K (.ref (He.ga K "NoCell")) "__getattr__" = some none),
  decide (PySem.W.subIn K (.ref (He.ga K "NoCell")) (.type "BaseException") = some true),
  decide (PySem.W.hasDictIn K (He.ga K "NoCell") = true),
  decide (PySem.W.findIn K (.ref (He.ga K "NoCell")) "__class__" = some (some (.builtin "object.__class__"))),
  decide (PySem.W.mroIn K (He.ga K "NoCell") (.type "object") = some true),
  decide (PySem.W.typeIn K (.ref (He.ga K "NoCell")) = some (.type "type")),
  decide (PySem.W.keepIn K (.ref (He.ga K "NoCell")) = true),
  decide (PySem.W.subIn K (.ref (He.ga K "NoCell")) (.type "ValueError") = some true),
  decide (PySem.W.isClsIn K (He.ga K "NoCell") = true),
  decide (PySem.W.subIn K (.ref (He.ga K "NoCell")) (.ref (He.ga K "NoCell")) = some true),
  decide (PySem.W.excIn K (He.ga K "NoCell") [.type "ValueError", .type "Exception", .type "BaseException", .type "object"] "ValueError.__new__" = true),
  decide (PySem.W.nsIn K mainGlobals "NoRule" = some (some (.ref (He.ga K "NoRule")))),
  decide (PySem.W.findIn K (.ref (He.ga K "NoRule")) "__getattribute__" = some (some (.builtin "BaseException.__getattribute__")))]
def exH_9 (K : PySem.W.Frag) : List Bool := [decide (PySem.W.findIn K (.ref (He.ga K "NoRule")) "__getattr__" = some none),
  decide (PySem.W.subIn K (.ref (He.ga K "NoRule")) (.type "BaseException") = some true),
  decide (PySem.W.hasDictIn K (He.ga K "NoRule") = true),
  decide (PySem.W.findIn K (.ref (He.ga K "NoRule")) "__class__" = some (some (.builtin "object.__class__"))),
  decide (PySem.W.mroIn K (He.ga K "NoRule") (.type "object") = some true),
  decide (PySem.W.typeIn K (.ref (He.ga K "NoRule")) = some (.type "type")),
  decide (PySem.W.keepIn K (.ref (He.ga K "NoRule")) = true),
  decide (PySem.W.subIn K (.ref (He.ga K "NoRule")) (.type "ValueError") = some true),
  decide (PySem.W.isClsIn K (He.ga K "NoRule") = true),
  decide (PySem.W.subIn K (.ref (He.ga K "NoRule")) (.ref (He.ga K "NoRule")) = some true),
  decide (PySem.W.excIn K (He.ga K "NoRule") [.type "ValueError", .type "Exception", .type "BaseException", .type "object"] "ValueError.__new__" = true),
  decide (PySem.W.nsIn K mainGlobals "NotKnown" = some (some (.ref (He.ga K "NotKnown")))),
  decide (PySem.W.findIn K (.ref (He.ga K "NotKnown")) "__getattribute__" = some (some (.builtin "BaseException.__getattribute__"))),
  decide (PySem.W.findIn K (.ref (He.ga K "NotKnown")) "__getattr__" = some none),
  decide (PySem.W.subIn K (.ref (He.ga K "NotKnown")) (.type "BaseException") = some true),
  decide (PySem.W.hasDictIn K (He.ga K "NotKnown") = true),
  decide (PySem.W.findIn K (.ref (He.ga K "NotKnown")) "__class__" = some (some (.builtin "object.__class__"))),
  decide (PySem.W.mroIn K (He.ga K "NotKnown") (.type "object") = some true),
  decide (PySem.W.typeIn K (.ref (He.ga K "NotKnown")) = some (.type "type")),
  decide (PySem.W.keepIn K (.ref (He.ga K "NotKnown")) = true),
  decide (PySem.W.subIn K (.ref (He.ga K "NotKnown")) (.type "ValueError") = some true),
  decide (PySem.W.isClsIn K (He.ga K "NotKnown") = true),
  decide (PySem.W.subIn K (.ref (He.ga K "NotKnown")) (.ref (He.ga K "NotKnown")) = some true),
  decide (PySem.W.nsIn K mainGlobals "NoLeaf" = some (some (.ref (He.ga K "NoLeaf")))),
  decide (PySem.W.findIn K (.ref (He.ga K "NoLeaf")) "__getattribute__" = some (some (.builtin "BaseException.__getattribute__")))]
def exH_10 (K : PySem.W.Frag) : List Bool := [decide (PySem.W.findIn K (.ref (He.ga K "NoLeaf")) "__getattr__" = some none),
  decide (PySem.W.subIn K (.ref (He.ga K "NoLeaf")) (.type "BaseException") = some true),
  decide (PySem.W.hasDictIn K (He.ga K "NoLeaf") = true),
  decide (PySem.W.findIn K (.ref (He.ga K "NoLeaf")) "__class__" = some (some (.builtin "object.__class__"))),
  decide (PySem.W.mroIn K (He.ga K "NoLeaf") (.type "object") = some true),
  decide (PySem.W.typeIn K (.ref (He.ga K "NoLeaf")) = some (.type "type")),
  decide (PySem.W.keepIn K (.ref (He.ga K "NoLeaf")) = true),
  decide (PySem.W.subIn K (.ref (He.ga K "NoLeaf")) (.type "ValueError") = some true),
  decide (PySem.W.isClsIn K (He.ga K "NoLeaf") = true),
  decide (PySem.W.subIn K (.ref (He.ga K "NoLeaf")) (.ref (He.ga K "NoLeaf")) = some true),
  decide (PySem.W.excIn K (He.ga K "NoLeaf") [.type "ValueError", .type "Exception", .type "BaseException", .type "object"] "ValueError.__new__" = true),
  decide (PySem.W.nsIn K mainGlobals "NoNumber" = some (some (.ref (He.ga K "NoNumber")))),
  decide (PySem.W.findIn K (.ref (He.ga K "NoNumber")) "__getattribute__" = some (some (.builtin "BaseException.__getattribute__"))),
  decide (PySem.W.findIn K (.ref (He.ga K "NoNumber")) "__getattr__" = some none),
  decide (PySem.W.subIn K (.ref (He.ga K "NoNumber")) (.type "BaseException") = some true),
  decide (PySem.W.hasDictIn K (He.ga K "NoNumber") = true),
  decide (PySem.W.findIn K (.ref (He.ga K "NoNumber")) "__class__" = some (some (.builtin "object.__class__"))),
  decide (PySem.W.mroIn K (He.ga K "NoNumber") (.type "object") = some true),
  decide (PySem.W.typeIn K (.ref (He.ga K "NoNumber")) = some (.type "type")),
  decide (PySem.W.keepIn K (.ref (He.ga K "NoNumber")) = true),
  decide (PySem.W.subIn K (.ref (He.ga K "NoNumber")) (.type "ValueError") = some true),
  decide (PySem.W.isClsIn K (He.ga K "NoNumber") = true),
  decide (PySem.W.subIn K (.ref (He.ga K "NoNumber")) (.ref (He.ga K "NoNumber")) = some true),
  decide (PySem.W.excIn K (He.ga K "NoNumber") [.type "ValueError", .type "Exception", .type "BaseException", .type "object"] "ValueError.__new__" = true),
  decide (PySem.W.nsIn K mainGlobals "NotWhole" = some (some (.ref (He.ga K "NotWhole"))))]
def exH_11 (K : PySem.W.Frag) : List Bool := [decide (PySem.W.findIn K (.ref (He.ga K "NotWhole")) "__getattribute__" = some (some (.builtin "BaseException.__getattribute__"))),
  decide (PySem.W.findIn K (.ref (He.ga K "NotWhole")) "__getattr__" = some none),
  decide (PySem.W.subIn K (.ref (He.ga K "NotWhole")) (.type "BaseException") = some true),
  decide (PySem.W.hasDictIn K (He.ga K "NotWhole") = true),
  decide (PySem.W.findIn K (.ref (He.ga K "NotWhole")) "__class__" = some (some (.builtin "object.__class__"))),
  decide (PySem.W.mroIn K (He.ga K "NotWhole") (.type "object") = some true),
  decide (PySem.W.typeIn K (.ref (He.ga K "NotWhole")) = some (.type "type")),
  decide (PySem.W.keepIn K (.ref (He.ga K "NotWhole")) = true),
  decide (PySem.W.subIn K (.ref (He.ga K "NotWhole")) (.type "ValueError") = some true),
  decide (PySem.W.isClsIn K (He.ga K "NotWhole") = true),
  decide (PySem.W.subIn K (.ref (He.ga K "NotWhole")) (.ref (He.ga K "NotWhole")) = some true),
  decide (PySem.W.excIn K (He.ga K "NotWhole") [.type "ValueError", .type "Exception", .type "BaseException", .type "object"] "ValueError.__new__" = true),
  decide (PySem.W.nsIn K mainGlobals "NoHead" = some (some (.ref (He.ga K "NoHead")))),
  decide (PySem.W.findIn K (.ref (He.ga K "NoHead")) "__getattribute__" = some (some (.builtin "BaseException.__getattribute__"))),
  decide (PySem.W.findIn K (.ref (He.ga K "NoHead")) "__getattr__" = some none),
  decide (PySem.W.subIn K (.ref (He.ga K "NoHead")) (.type "BaseException") = some true),
  decide (PySem.W.hasDictIn K (He.ga K "NoHead") = true),
  decide (PySem.W.findIn K (.ref (He.ga K "NoHead")) "__class__" = some (some (.builtin "object.__class__"))),
  decide (PySem.W.mroIn K (He.ga K "NoHead") (.type "object") = some true),
  decide (PySem.W.typeIn K (.ref (He.ga K "NoHead")) = some (.type "type")),
  decide (PySem.W.keepIn K (.ref (He.ga K "NoHead")) = true),
  decide (PySem.W.subIn K (.ref (He.ga K "NoHead")) (.type "ValueError") = some true),
  decide (PySem.W.isClsIn K (He.ga K "NoHead") = true),
  decide (PySem.W.subIn K (.ref (He.ga K "NoHead")) (.ref (He.ga K "NoHead")) = some true),
  decide (PySem.W.excIn K (He.ga K "NoHead") [.type "ValueError", .type "Exception", .type "BaseException", .type "object"] "ValueError.__new__" = true)]
def exH_12 (K : PySem.W.Frag) : List Bool := [decide (PySem.W.nsIn K mainGlobals "ScrollError" = some (some (.ref (He.ga K "ScrollError")))),
  decide (PySem.W.findIn K (.ref (He.ga K "ScrollError")) "__getattribute__" = some (some (.builtin "BaseException.__getattribute__"))),
  decide (PySem.W.findIn K (.ref (He.ga K "ScrollError")) "__getattr__" = some none),
  decide (PySem.W.subIn K (.ref (He.ga K "ScrollError")) (.type "BaseException") = some true),
  decide (PySem.W.hasDictIn K (He.ga K "ScrollError") = true),
  decide (PySem.W.findIn K (.ref (He.ga K "ScrollError")) "__class__" = some (some (.builtin "object.__class__"))),
  decide (PySem.W.mroIn K (He.ga K "ScrollError") (.type "object") = some true),
  decide (PySem.W.typeIn K (.ref (He.ga K "ScrollError")) = some (.type "type")),
  decide (PySem.W.keepIn K (.ref (He.ga K "ScrollError")) = true),
  decide (PySem.W.subIn K (.ref (He.ga K "ScrollError")) (.type "ValueError") = some true),
  decide (PySem.W.isClsIn K (He.ga K "ScrollError") = true),
  decide (PySem.W.subIn K (.ref (He.ga K "ScrollError")) (.ref (He.ga K "ScrollError")) = some true),
  decide (PySem.W.excIn K (He.ga K "ScrollError") [.type "ValueError", .type "Exception", .type "BaseException", .type "object"] "ValueError.__new__" = true),
  decide (oexB K (He.ga K "NotKnown") = true),
  decide (PySem.W.findIn K (.ref (He.ga K "NotKnown")) "__setattr__" = some (some (.builtin "object.__setattr__"))),
  decide (PySem.W.typeIn K (.ref (He.fAd K ("NotKnown", some "__init__"))) = some (.type "function")),
  decide (PySem.W.findIn K (.ref (He.ga K "NotKnown")) "way" = some none),
  decide (PySem.W.nsIn K mainGlobals "ScrollError" = some (some (.ref (He.ga K "ScrollError")))),
  decide (PySem.W.readsIn K (He.ga K "ScrollError") (.type "type") = true),
  decide (PySem.W.specialIn K (.ref (He.ga K "ScrollError")) "__getattribute__" = some (some (.builtin "type.__getattribute__"))),
  decide (findBuB K (.ref (He.ga K "ScrollError")) (.type "type") "__init__" "ValueError.__init__" = true),
  decide (PySem.W.subIn K (.ref (He.ga K "NoRule")) (.ref (He.ga K "NoRule")) = some true),
  decide (PySem.W.subIn K (.ref (He.ga K "NotKnown")) (.ref (He.ga K "NoCell")) = some false),
  decide (PySem.W.subIn K (.ref (He.ga K "NotKnown")) (.ref (He.ga K "NoHead")) = some false),
  decide (PySem.W.subIn K (.ref (He.ga K "NotKnown")) (.ref (He.ga K "NoNumber")) = some false)]
def exH_13 (K : PySem.W.Frag) : List Bool := [decide (PySem.W.subIn K (.ref (He.ga K "NotKnown")) (.ref (He.ga K "NotKnown")) = some true),
  decide (PySem.W.subIn K (.ref (He.ga K "NotKnown")) (.ref (He.ga K "NotWhole")) = some false),
  decide (PySem.W.subIn K (.ref (He.ga K "NotKnown")) (.ref (He.ga K "ScrollError")) = some true),
  decide (PySem.W.specialIn K (.builtin "object.__class__") "__get__" = some (some (.builtin "getset_descriptor.__get__"))),
  decide (PySem.W.takesIn K (.builtin "object.__class__") = some true),
  decide (PySem.W.nsIn K mainGlobals "list" = some none),
  decide (PySem.W.nsIn K mainGlobals "sorted" = some none),
  decide (PySem.W.nsIn K mainGlobals "all" = some none),
  decide (PySem.W.nsIn K mainGlobals "any" = some none),
  decide (PySem.W.nsIn K mainGlobals "isinstance" = some none),
  decide (PySem.W.nsIn K mainGlobals "int" = some none),
  decide (PySem.W.nsIn K mainGlobals "bool" = some none),
  decide (PySem.W.nsIn K mainGlobals "tuple" = some none),
  decide (PySem.W.nsIn K mainGlobals "len" = some none),
  decide (PySem.W.nsIn K mainGlobals "min" = some none),
  decide (PySem.W.nsIn K mainGlobals "range" = some none),
  decide (PySem.W.nsIn K mainGlobals "dict" = some none),
  decide (PySem.W.nsIn K mainGlobals "sum" = some none)]
def exP_0 (K : PySem.W.Frag) : Bool := (exH_0 K).all id && ((exH_1 K).all id && ((exH_2 K).all id && ((exH_3 K).all id && ((exH_4 K).all id && ((exH_5 K).all id && ((exH_6 K).all id && ((exH_7 K).all id && ((exH_8 K).all id && ((exH_9 K).all id)))))))))
def exP_1 (K : PySem.W.Frag) : Bool := (exH_10 K).all id && ((exH_11 K).all id && ((exH_12 K).all id && ((exH_13 K).all id)))
def exQ_1 : PySem.W.Frag → Bool := exP_1
def exQ_0 : PySem.W.Frag → Bool := fun K => exP_0 K && exQ_1 K
abbrev exH : PySem.W.Frag → Bool := exQ_0
abbrev RH : PySem.W.OpenRow := PySem.W.OpenLaw.row PySem.Challenge.rw_lanescroll_k28_ways_to_what_has_not_come
def looseH : List PySem.Str := ([PySem.Str.ofString "ScrollError", PySem.Str.ofString "NoRule", PySem.Str.ofString "NoLeaf", PySem.Str.ofString "NoCell", PySem.Str.ofString "NoNumber", PySem.Str.ofString "NotKnown", PySem.Str.ofString "NoHead", PySem.Str.ofString "NotWhole", PySem.Str.ofString "needs_of", PySem.Str.ofString "hung", PySem.Str.ofString "values_of", PySem.Str.ofString "all_came", PySem.Str.ofString "known", PySem.Str.ofString "way_out", PySem.Str.ofString "table", PySem.Str.ofString "is_whole", PySem.Str.ofString "Rule", PySem.Str.ofString "Plain", PySem.Str.ofString "Moved", PySem.Str.ofString "Mixed", PySem.Str.ofString "is_need", PySem.Str.ofString "rule_of", PySem.Str.ofString "Leaf", PySem.Str.ofString "Full", PySem.Str.ofString "Still", PySem.Str.ofString "Woven", PySem.Str.ofString "is_value", PySem.Str.ofString "is_rule", PySem.Str.ofString "is_row_of", PySem.Str.ofString "leaf_of"] : List PySem.Str) ++ ([PySem.Str.ofString "_law_cell_at", PySem.Str.ofString "_law_well", PySem.Str.ofString "_law_draw", PySem.Str.ofString "_law_whole", PySem.Str.ofString "_law_back", PySem.Str.ofString "_law_rule", PySem.Str.ofString "_law_leaf", PySem.Str.ofString "_law_slots", PySem.Str.ofString "_law_leaves", PySem.Str.ofString "_law_needs", PySem.Str.ofString "_law_came", PySem.Str.ofString "_law_all_came", PySem.Str.ofString "_law_way", PySem.Str.ofString "_law_way_right", PySem.Str.ofString "_law_asked", PySem.Str.ofString "_law_chain", PySem.Str.ofString "_law_chain_right"] : List PySem.Str)
def obH_0 (s : PySem.W.SharedT) : He.AlX := obsY 6 fnH tfH exP_0 (HandSHeadRun.getT s)
set_option maxHeartbeats 0 in
theorem runH_0 (w : World) : HandSHeadRun.RunEq RH (PySem.W.view RH.prog [53]) (hookY 6 fnH tfH exP_0) obH_0 30000 looseH w := by
  intro os
  kernel_rfl
def obH_1 (s : PySem.W.SharedT) : He.AlX := obsY 6 [] [] exP_1 (HandSHeadRun.getT s)
set_option maxHeartbeats 0 in
theorem runH_1 (w : World) : HandSHeadRun.RunEq RH (PySem.W.view RH.prog [53]) (hookY 6 [] [] exP_1) obH_1 30000 looseH w := by
  intro os
  kernel_rfl
abbrev hkH : PySem.W.Hook := hookY 6 fnH tfH exH
def obH (s : PySem.W.SharedT) : He.AlX := obsY 6 fnH tfH exH (HandSHeadRun.getT s)
theorem obH_eq (s : PySem.W.SharedT) : obH s = hkH.obs s.abs := obsY_of (HandSHeadRun.getT_eq s)
theorem runH (w : World) : HandSHeadRun.RunEq RH (PySem.W.view RH.prog [53]) hkH obH 30000 looseH w := run_and (runH_1 w) (runH_0 w)

section
variable {Pr : Program} {wo : World} {K : PySem.W.Frag} {mg : Str → Option Value} {base : Heap}
theorem ok_Plain__needs {f : Addr} {fd : FuncData}  (F : Fun K "needs" "Rule.needs" s_Plain__needs f fd)  : FnOk Pr wo K mg base CX0 1 f fd ["self"] (sp_Plain__needs K) := by
 refine F.ok sc_Plain__needs (fun vs H Q E h => ?_) (fun cdv A outer s H0 vs Q E hr h => ?_)
 ·obtain ⟨_, _, _, _, rfl, _⟩ := h; rfl
 ·obtain ⟨B0, v_self, s_worth, w, rfl, r_self, P⟩ := h
  refine ⟨_, (pss_one (ps_ret (pe_lst pa_nil))), ?_⟩
  unfold m_Plain__needs at P
  have st := Stp.refl (W := []) w
  refine h_ret (h_lst (h_nil ?_))
  refine h_newM w (ds := (([] : List Qf)).map enc) (K := K) .nil (fun p1 H2 hn5 s3 m4 => ?_) (by show 0 ≤ sizeLine; decide)
  have n6 := st.nn hn5
  replace st := st.go s3 go0
  replace w := s3.ok
  exact P.ok _ _ _ st n6 m4
theorem ok_Moved__needs {f : Addr} {fd : FuncData}  (F : Fun K "needs" "Moved.needs" s_Moved__needs f fd) {C_Moved : Addr} (T_Moved : KI K mg "Moved" C_Moved) (n_Moved_back : NoAttr K C_Moved "back") (n_Moved_cell : NoAttr K C_Moved "cell") : FnOk Pr wo K mg base CX0 1 f fd ["self"] (sp_Moved__needs K) := by
 refine F.ok sc_Moved__needs (fun vs H Q E h => ?_) (fun cdv A outer s H0 vs Q E hr h => ?_)
 ·obtain ⟨_, _, _, _, _, _, rfl, _⟩ := h; rfl
 ·obtain ⟨B0, v_self, s_back, s_cell, s_add, w, rfl, r_self, P⟩ := h
  refine ⟨_, (pss_one (ps_ret (pe_lst (pa_cons (pe_tup (pa_cons (pe_fldK (K := K) rfl (pv 0) (by rfl)) (pa_cons (pe_fldK (K := K) rfl (pv 0) (by rfl)) pa_nil))) pa_nil)))), ?_⟩
  unfold m_Moved__needs at P
  have st := Stp.refl (W := []) w
  refine h_ret (h_lst (h_cons (h_tup ?_)))
  refine h_cons (h_fldE (h_var rfl ?_))
  refine h_fld w (r_self.mono st.ex) T_Moved.toKC n_Moved_back (d := enc (s_back : Int)) lk0 (fun u1 r2 => ?_)
  cases r2
  refine h_cons (h_fldE (h_var rfl ?_))
  refine h_fld w (r_self.mono st.ex) T_Moved.toKC n_Moved_cell (d := enc (s_cell : Int)) (lkS (by decide +kernel) lk0) (fun u3 r4 => ?_)
  cases r4
  refine h_nil ?_
  refine h_newT w (K := K) (.cons (Rep.int _) (.cons (Rep.int _) .nil)) (fun p5 B6 H7 s8 r9 => ?_) (by show 2 ≤ sizeLine; decide)
  replace st := st.go s8 go0
  replace w := s8.ok
  replace r9 : Rep K B6 (.ref p5) (enc (⟨s_back, s_cell⟩ : Qf)) := r9
  refine h_nil ?_
  refine h_newM w (ds := (([(⟨s_back, s_cell⟩ : Qf)] : List Qf)).map enc) (K := K) (.cons r9 .nil) (fun p10 H11 hn14 s12 m13 => ?_) (by show 1 ≤ sizeLine; decide)
  have n15 := st.nn hn14
  replace st := st.go s12 go0
  replace w := s12.ok
  exact P.ok _ _ _ st n15 m13
theorem ok_Mixed__needs {f : Addr} {fd : FuncData}  (F : Fun K "needs" "Mixed.needs" s_Mixed__needs f fd) {C_Mixed : Addr} (T_Mixed : KI K mg "Mixed" C_Mixed) (n_Mixed_back : NoAttr K C_Mixed "back") (n_Mixed_cell : NoAttr K C_Mixed "cell") (n_Mixed_other_back : NoAttr K C_Mixed "other_back") (n_Mixed_other_cell : NoAttr K C_Mixed "other_cell") : FnOk Pr wo K mg base CX0 1 f fd ["self"] (sp_Mixed__needs K) := by
 refine F.ok sc_Mixed__needs (fun vs H Q E h => ?_) (fun cdv A outer s H0 vs Q E hr h => ?_)
 ·obtain ⟨_, _, _, _, _, _, _, rfl, _⟩ := h; rfl
 ·obtain ⟨B0, v_self, s_back, s_cell, s_other_back, s_other_cell, w, rfl, r_self, P⟩ := h
  refine ⟨_, (pss_one (ps_ret (pe_lst (pa_cons (pe_tup (pa_cons (pe_fldK (K := K) rfl (pv 0) (by rfl)) (pa_cons (pe_fldK (K := K) rfl (pv 0) (by rfl)) pa_nil))) (pa_cons (pe_tup (pa_cons (pe_fldK (K := K) rfl (pv 0) (by rfl)) (pa_cons (pe_fldK (K := K) rfl (pv 0) (by rfl)) pa_nil))) pa_nil))))), ?_⟩
  unfold m_Mixed__needs at P
  have st := Stp.refl (W := []) w
  refine h_ret (h_lst (h_cons (h_tup ?_)))
  refine h_cons (h_fldE (h_var rfl ?_))
  refine h_fld w (r_self.mono st.ex) T_Mixed.toKC n_Mixed_back (d := enc (s_back : Int)) lk0 (fun u1 r2 => ?_)
  cases r2
  refine h_cons (h_fldE (h_var rfl ?_))
  refine h_fld w (r_self.mono st.ex) T_Mixed.toKC n_Mixed_cell (d := enc (s_cell : Int)) (lkS (by decide +kernel) lk0) (fun u3 r4 => ?_)
  cases r4
  refine h_nil ?_
  refine h_newT w (K := K) (.cons (Rep.int _) (.cons (Rep.int _) .nil)) (fun p5 B6 H7 s8 r9 => ?_) (by show 2 ≤ sizeLine; decide)
  replace st := st.go s8 go0
  replace w := s8.ok
  replace r9 : Rep K B6 (.ref p5) (enc (⟨s_back, s_cell⟩ : Qf)) := r9
  refine h_cons (h_tup ?_)
  refine h_cons (h_fldE (h_var rfl ?_))
  refine h_fld w (r_self.mono st.ex) T_Mixed.toKC n_Mixed_other_back (d := enc (s_other_back : Int)) (lkS (by decide +kernel) (lkS (by decide +kernel) lk0)) (fun u10 r11 => ?_)
  cases r11
  refine h_cons (h_fldE (h_var rfl ?_))
  refine h_fld w (r_self.mono st.ex) T_Mixed.toKC n_Mixed_other_cell (d := enc (s_other_cell : Int)) (lkS (by decide +kernel) (lkS (by decide +kernel) (lkS (by decide +kernel) lk0))) (fun u12 r13 => ?_)
  cases r13
  refine h_nil ?_
  refine h_newT w (K := K) (.cons (Rep.int _) (.cons (Rep.int _) .nil)) (fun p14 B15 H16 s17 r18 => ?_) (by show 2 ≤ sizeLine; decide)
  replace r9 := r9.mono s17.ex
  replace st := st.go s17 go0
  replace w := s17.ok
  replace r18 : Rep K B15 (.ref p14) (enc (⟨s_other_back, s_other_cell⟩ : Qf)) := r18
  refine h_nil ?_
  refine h_newM w (ds := (([(⟨s_back, s_cell⟩ : Qf), (⟨s_other_back, s_other_cell⟩ : Qf)] : List Qf)).map enc) (K := K) (.cons r9 (.cons r18 .nil)) (fun p19 H20 hn23 s21 m22 => ?_) (by show 2 ≤ sizeLine; decide)
  have n24 := st.nn hn23
  replace st := st.go s21 go0
  replace w := s21.ok
  exact P.ok _ _ _ st n24 m22
theorem ok_is_whole {f : Addr} {fd : FuncData}  (F : Fun K "is_whole" "is_whole" s_is_whole f fd) (bI_isinstance : mg "isinstance" = none) (bI_int : mg "int" = none) (bI_bool : mg "bool" = none) : FnOk Pr wo K mg base CX0 1 f fd ["thing", "low", "high"] (sp_is_whole K) := by
 refine F.ok sc_is_whole (fun vs H Q E h => ?_) (fun cdv A outer s H vs Q E hr h => ?_)
 ·obtain ⟨_, _, _, _, _, _, rfl, _⟩ := h; rfl
 ·obtain ⟨B, v, d, lo, hi, w, rfl, r, k⟩ := h
  have st := Stp.refl (W := []) w
  refine ⟨_, pss_one (ps_ret (pe_and (pe_callB call_isi (by rfl) bI_isinstance PyProof.Rows.boot_isinstance (pa_cons (pv 0) (pa_cons (pe_bltn (v := .ty "int") (by rfl) bI_int Y.boot_int rfl) pa_nil)))
   (pe_and (pe_not (pe_callB call_isi (by rfl) bI_isinstance PyProof.Rows.boot_isinstance (pa_cons (pv 0) (pa_cons (pe_bltn (v := .ty "bool") (by rfl) bI_bool Y.boot_bool rfl) pa_nil))))
    (pe_one (pe_chain op_le op_le (pv 1) (pv 0) (pv 2)))))), ?_⟩
  refine h_ret (h_and (h_cb (h_cons (h_var rfl (h_cons (h_c (h_nil (isi (t := "int") w r (h_bl ?_)))))))))
  cases d <;> try exact h_iteF (k.ok _ _ _ st (Rep.bl _))
  ·refine h_iteT (h_and (h_not (h_cb (h_cons (h_var rfl (h_cons (h_c (h_nil (isi (t := "bool") w r (h_bl (h_bl ?_))))))))))) 
   exact h_iteF (k.ok _ _ _ st (Rep.bl _))
  ·cases r
   refine h_iteT (h_and (h_not (h_cb (h_cons (h_var rfl (h_cons (h_c (h_nil (isi (t := "bool") w (Rep.int _) (h_bl (h_bl ?_)))))))))))
   refine h_iteT (h_chain (h_var rfl (h_var rfl (h_ch (fun Q q => h_var rfl q) ?_))))
   exact k.ok _ _ _ st (Rep.bl _)
theorem ok_Plain____init__ {f : Addr} {fd : FuncData} (F : Fun K "__init__" "Plain.__init__" s_Plain____init__ f fd) : FnOk Pr wo K mg base CX0 1 f fd ["self", "value"] (spInit K ["worth"]) := by
 refine F.ok sc_Plain____init__ (fun vs H Q E h => ?_) (fun cdv A outer s H vs Q E hr h => ?_)
 ·obtain ⟨_, _, _, us, rfl, hl, _⟩ := h
  exact congrArg Nat.succ hl
 ·obtain ⟨C, p, dx, us, rfl, hl, hp, hc, lo, k⟩ := h
  match us, hl with
  | [u1], _ =>
   refine ⟨_, (pss_one (ps_fld (pv 0) (pv 1) rfl)), ?_⟩
   have e1 : putF "worth" u1 ([] : List (Str × V)) = ([("worth", u1)] : List (Str × V)) := putE
   have eH : (upd H p (HO.ins C dx (putF "worth" u1 ([] : List (Str × V))))) = upd H p (HO.ins C dx ([("worth", u1)] : List (Str × V))) := by rw [e1]
   have k2 : Q .non (upd H p (HO.ins C dx ([("worth", u1)] : List (Str × V)))) := k
   rw [← eH] at k2
   exact ⟨_, rfl, _, rfl, p, C, dx, ([] : List (Str × V)), rfl, hp, hc, lo.1, (by show 0 < 1000; decide), k2⟩
theorem ok_Full__rule {f : Addr} {fd : FuncData}  (F : Fun K "rule" "Full.rule" s_Full__rule f fd) {C_NoCell : Addr} (T_NoCell : ExcR K mg "NoCell" C_NoCell) {C_Full : Addr} (T_Full : KI K mg "Full" C_Full) {C_Plain : Addr} (T_Plain : KI K mg "Plain" C_Plain) (n_Full_worths : NoAttr K C_Full "worths") {fi_Plain : Addr} {di_Plain : FuncData} (M_Plain : Mk K C_Plain fi_Plain) (lo_Plain : LaysOk K C_Plain ["worth"]) (bi_Plain : L2.Binds K di_Plain ["self", "value"] []) (Gi_Plain : FnOk Pr wo K mg base CX0 1 fi_Plain di_Plain ["self", "value"] (spInit K ["worth"])) (X_is_whole : Cal Pr wo K mg base "is_whole" ["thing", "low", "high"] CX0 1 (sp_is_whole K)) (bI_len : mg "len" = none) : FnOk Pr wo K mg base (L2.CX Pr wo) 3 f fd ["self", "cell"] (sp_Full__rule K mg) := by
 obtain ⟨_, _, g_is_whole, k_is_whole, b_is_whole, G_is_whole⟩ := X_is_whole
 refine F.okX sc_Full__rule (fun vs H Q E h => ?_) (fun cdv A outer s H0 vs Q E hr h => ?_)
 ·obtain ⟨_, _, _, _, _, _, _, _, rfl, _⟩ := h; rfl
 ·obtain ⟨B0, v_self, s_begin, s_span, s_worths, v_cell, a_cell, w, rfl, r_self, r_cell, P⟩ := h
  have hu := hu_of hr
  have hr1 : Room 1 _ := hr.mono (by decide)
  have hr2 : Room 2 _ := hr.mono (by decide)
  refine ⟨_, (pss_cons (ps_if (pt_not (pt_val (pe_call G_is_whole hr1 rfl g_is_whole k_is_whole b_is_whole .nil pass0 (pa_cons (pv 1) (pa_cons pe_int (pa_cons (pe_op op_sub (pe_callB (r := rLenY K) cr_len (by rfl) bI_len PySem.boot_len (pa_cons (pe_fldK (K := K) rfl (pv 0) (by rfl)) pa_nil)) pe_int) pa_nil)))))) (pss_one (ps_raise rfl (takes_of rfl rfl rfl rfl) (pmk_own PySem.F.excBase_ValueError T_NoCell.ex T_NoCell.g T_NoCell.kp (raises_own T_NoCell.ec.hs T_NoCell.ty) rfl))) pss_nil)
   (pss_one (ps_ret (pe_make M_Plain Gi_Plain hr2 rfl T_Plain.g bi_Plain .nil pass0 (pa_cons (pe_ix (r := rIxT K) ix_tup (pe_fldK (K := K) rfl (pv 0) (by rfl)) (pv 1) (fun _ _ => rfl)) pa_nil))))), ?_⟩
  unfold m_Full__rule at P
  have st := Stp.refl (W := []) w
  refine h_seq <| h_if ?_
  refine h_tnot ?_
  refine h_tB ?_
  refine h_call (h_cons (h_var rfl (h_cons (h_c (h_cons (h_op (h_cb (h_cons (h_fldE (h_var rfl ?_))))))))))
  refine h_fld w (r_self.mono st.ex) T_Full.toKC n_Full_worths (d := enc (s_worths : D)) (lkS (by decide +kernel) (lkS (by decide +kernel) lk0)) (fun u1 r2 => ?_)
  refine h_nil ?_
  obtain ⟨l3, hl4, P⟩ := P.asT
  have rc5 := r2
  rw [hl4] at rc5
  obtain ⟨p6, xs7, rfl, hs8, hr9⟩ := Rep.st w rc5
  refine h_lenTl hs8 hr9 ?_
  refine h_c (h_I0 (h_nil ?_))
  refine ⟨B0, v_cell, a_cell, 0, ((l3.length : Int) - 1), w, rfl, (r_cell.mono st.ex), (P.bind.noErr).mono (fun x10 P => ?_) (fun _ z => z.elim)⟩
  refine fun v14 B11 H12 s13 r15 => ?_
  replace st := st.go s13 go0
  replace w := s13.ok
  cases r15
  refine h_bl ?_
  refine h_iteN (fun c1 => ?_) (fun c1 => ?_)
  ·replace P := P.iteF c1
   exact P.err _ none _ _ T_NoCell.g st rfl
  ·replace P := P.iteT c1
   refine h_next ?_
   refine h_nx ?_
   refine h_ret (h_makeE ?_)
   refine h_cons (h_op (h_fldE (h_var rfl ?_)))
   refine h_fld w (r_self.mono st.ex) T_Full.toKC n_Full_worths (d := enc (s_worths : D)) (lkS (by decide +kernel) (lkS (by decide +kernel) lk0)) (fun u16 r17 => ?_)
   refine h_var rfl ?_
   obtain ⟨i18, hi19, P⟩ := P.asI
   have rc20 := (r_cell.mono st.ex)
   rw [hi19] at rc20
   cases rc20
   obtain ⟨l21, hl22, P⟩ := P.asT
   have rc23 := r17
   rw [hl22] at rc23
   obtain ⟨p24, xs25, rfl, hs26, hr27⟩ := Rep.st w rc23
   obtain ⟨x28, hx29, P⟩ := P.ix
   obtain ⟨u30, hu, r31⟩ := RepL.atE hr27 hx29
   refine h_ixT hs26 hu ?_
   refine h_nil ?_
   obtain ⟨i32, hi33, P⟩ := P.asI
   have rc34 := r31
   rw [hi33] at rc34
   cases rc34
   refine h_make (us := [.int i32]) (ns := ["worth"]) rfl w T_Plain.toKC lo_Plain (ds := [("worth", enc (i32 : Int))]) (.cons (Rep.int _) .nil) (fun p35 B36 H37 s38 r39 => ?_)
   replace r31 := r31.mono s38.ex
   replace st := st.go s38 go0
   replace w := s38.ok
   replace r39 : Rep K B36 (.ref p35) (enc (K_Rule.Plain i32)) := r39
   exact P.ok _ _ _ st r39
theorem ok_Moved____init__ {f : Addr} {fd : FuncData} (F : Fun K "__init__" "Moved.__init__" s_Moved____init__ f fd) : FnOk Pr wo K mg base CX0 1 f fd ["self", "back", "cell", "add"] (spInit K ["back", "cell", "add"]) := by
 refine F.ok sc_Moved____init__ (fun vs H Q E h => ?_) (fun cdv A outer s H vs Q E hr h => ?_)
 ·obtain ⟨_, _, _, us, rfl, hl, _⟩ := h
  exact congrArg Nat.succ hl
 ·obtain ⟨C, p, dx, us, rfl, hl, hp, hc, lo, k⟩ := h
  match us, hl with
  | [u1, u2, u3], _ =>
   refine ⟨_, (pss_cons (ps_fld (pv 0) (pv 1) rfl) (pss_cons (ps_fld (pv 0) (pv 2) rfl) (pss_one (ps_fld (pv 0) (pv 3) rfl)))), ?_⟩
   have e1 : putF "back" u1 ([] : List (Str × V)) = ([("back", u1)] : List (Str × V)) := putE
   have h1 : (upd H p (HO.ins C dx (putF "back" u1 ([] : List (Str × V))))) p = some (HO.ins C dx ([("back", u1)] : List (Str × V))) := by rw [e1]; exact upd_same
   have e2 : putF "cell" u2 ([("back", u1)] : List (Str × V)) = ([("back", u1), ("cell", u2)] : List (Str × V)) := (putS (by decide +kernel) putE)
   have h2 : (upd (upd H p (HO.ins C dx (putF "back" u1 ([] : List (Str × V))))) p (HO.ins C dx (putF "cell" u2 ([("back", u1)] : List (Str × V))))) p = some (HO.ins C dx ([("back", u1), ("cell", u2)] : List (Str × V))) := by rw [e2]; exact upd_same
   have e3 : putF "add" u3 ([("back", u1), ("cell", u2)] : List (Str × V)) = ([("back", u1), ("cell", u2), ("add", u3)] : List (Str × V)) := (putS (by decide +kernel) (putS (by decide +kernel) putE))
   have eH : (upd (upd (upd H p (HO.ins C dx (putF "back" u1 ([] : List (Str × V))))) p (HO.ins C dx (putF "cell" u2 ([("back", u1)] : List (Str × V))))) p (HO.ins C dx (putF "add" u3 ([("back", u1), ("cell", u2)] : List (Str × V))))) = upd H p (HO.ins C dx ([("back", u1), ("cell", u2), ("add", u3)] : List (Str × V))) := by rw [e1, e2, e3, L2.upd_upd, L2.upd_upd]
   have k2 : Q .non (upd H p (HO.ins C dx ([("back", u1), ("cell", u2), ("add", u3)] : List (Str × V)))) := k
   rw [← eH] at k2
   exact ⟨_, rfl, _, rfl, p, C, dx, ([] : List (Str × V)), rfl, hp, hc, lo.1, (by show 0 < 1000; decide), _, rfl, _, rfl, p, C, dx, ([("back", u1)] : List (Str × V)), rfl, h1, hc, lo.2.1, (by show 1 < 1000; decide), _, rfl, _, rfl, p, C, dx, ([("back", u1), ("cell", u2)] : List (Str × V)), rfl, h2, hc, lo.2.2.1, (by show 2 < 1000; decide), k2⟩
theorem ok_Still__rule {f : Addr} {fd : FuncData}  (F : Fun K "rule" "Still.rule" s_Still__rule f fd) {C_NoCell : Addr} (T_NoCell : ExcR K mg "NoCell" C_NoCell) {C_Moved : Addr} (T_Moved : KI K mg "Moved" C_Moved) {C_Still : Addr} (T_Still : KI K mg "Still" C_Still) (n_Still_back : NoAttr K C_Still "back") {fi_Moved : Addr} {di_Moved : FuncData} (M_Moved : Mk K C_Moved fi_Moved) (lo_Moved : LaysOk K C_Moved ["back", "cell", "add"]) (bi_Moved : L2.Binds K di_Moved ["self", "back", "cell", "add"] []) (Gi_Moved : FnOk Pr wo K mg base CX0 1 fi_Moved di_Moved ["self", "back", "cell", "add"] (spInit K ["back", "cell", "add"])) (X_is_whole : Cal Pr wo K mg base "is_whole" ["thing", "low", "high"] CX0 1 (sp_is_whole K)) (kb_Moved____init___2_add : KBinds K di_Moved ["self", "back", "cell", "add"] ["add"] (fun us ws => match us, ws with | [u0, u1, u2], [w0] => [u0, u1, u2, w0] | _, _ => []) (fun us ws => match us, ws with | [u0, u1, u2], [w0] => [u0, u1, u2, w0] | _, _ => [])) : FnOk Pr wo K mg base (L2.CX Pr wo) 3 f fd ["self", "cell"] (sp_Still__rule K mg) := by
 obtain ⟨_, _, g_is_whole, k_is_whole, b_is_whole, G_is_whole⟩ := X_is_whole
 refine F.okX sc_Still__rule (fun vs H Q E h => ?_) (fun cdv A outer s H0 vs Q E hr h => ?_)
 ·obtain ⟨_, _, _, _, _, _, _, _, rfl, _⟩ := h; rfl
 ·obtain ⟨B0, v_self, s_begin, s_span, s_back, v_cell, a_cell, w, rfl, r_self, r_cell, P⟩ := h
  have hr1 : Room 1 _ := hr.mono (by decide)
  have hr2 : Room 2 _ := hr.mono (by decide)
  refine ⟨_, (pss_cons (ps_if (pt_not (pt_val (pe_call G_is_whole hr1 rfl g_is_whole k_is_whole b_is_whole .nil pass0 (pa_cons (pv 1) (pa_cons pe_int (pa_cons pe_int pa_nil)))))) (pss_one (ps_raise rfl (takes_of rfl rfl rfl rfl) (pmk_own PySem.F.excBase_ValueError T_NoCell.ex T_NoCell.g T_NoCell.kp (raises_own T_NoCell.ec.hs T_NoCell.ty) rfl))) pss_nil)
   (pss_one (ps_ret (pe_makeB M_Moved Gi_Moved hr2 rfl T_Moved.g kb_Moved____init___2_add pass0 (pa_cons (pe_fldK (K := K) rfl (pv 0) (by rfl)) (pa_cons (pv 1) pa_nil)) (pk_cons pe_int pk_nil))))), ?_⟩
  unfold m_Still__rule at P
  have st := Stp.refl (W := []) w
  refine h_seq <| h_if ?_
  refine h_tnot ?_
  refine h_tB ?_
  refine h_call (h_cons (h_var rfl (h_cons (h_c (h_cons (h_c (h_nil ?_)))))))
  refine ⟨B0, v_cell, a_cell, 0, 15, w, rfl, (r_cell.mono st.ex), (P.bind.noErr).mono (fun x1 P => ?_) (fun _ z => z.elim)⟩
  refine fun v5 B2 H3 s4 r6 => ?_
  replace st := st.go s4 go0
  replace w := s4.ok
  cases r6
  refine h_bl ?_
  refine h_iteN (fun c1 => ?_) (fun c1 => ?_)
  ·replace P := P.iteF c1
   exact P.err _ none _ _ T_NoCell.g st rfl
  ·replace P := P.iteT c1
   refine h_next ?_
   refine h_nx ?_
   refine h_ret (h_makeBE ?_)
   refine h_cons (h_fldE (h_var rfl ?_))
   refine h_fld w (r_self.mono st.ex) T_Still.toKC n_Still_back (d := enc (s_back : Int)) (lkS (by decide +kernel) (lkS (by decide +kernel) lk0)) (fun u7 r8 => ?_)
   cases r8
   refine h_cons (h_var rfl (h_nil (h_cons (h_c (h_nil ?_)))))
   obtain ⟨i9, hi10, P⟩ := P.asI
   have rc11 := (r_cell.mono st.ex)
   rw [hi10] at rc11
   cases rc11
   refine h_make (us := [.int s_back, .int i9, .int 0]) (ns := ["back", "cell", "add"]) rfl w T_Moved.toKC lo_Moved (ds := [("back", enc (s_back : Int)), ("cell", enc (i9 : Int)), ("add", enc (0 : Int))]) (.cons (Rep.int _) (.cons (Rep.int _) (.cons (Rep.int _) .nil))) (fun p12 B13 H14 s15 r16 => ?_)
   replace st := st.go s15 go0
   replace w := s15.ok
   replace r16 : Rep K B13 (.ref p12) (enc (K_Rule.Moved s_back i9 0)) := r16
   exact P.ok _ _ _ st r16
theorem ok_is_need {f : Addr} {fd : FuncData}  (F : Fun K "is_need" "is_need" s_is_need f fd) (X_is_whole : Cal Pr wo K mg base "is_whole" ["thing", "low", "high"] CX0 1 (sp_is_whole K)) : FnOk Pr wo K mg base CX0 2 f fd ["back", "cell"] (sp_is_need K) := by
 obtain ⟨_, _, g_is_whole, k_is_whole, b_is_whole, G_is_whole⟩ := X_is_whole
 refine F.ok sc_is_need (fun vs H Q E h => ?_) (fun cdv A outer s H0 vs Q E hr h => ?_)
 ·obtain ⟨_, _, _, _, _, _, rfl, _⟩ := h; rfl
 ·obtain ⟨B0, v_back, a_back, v_cell, a_cell, w, rfl, r_back, r_cell, P⟩ := h
  have hr1 : Room 1 _ := hr.mono (by decide)
  refine ⟨_, (pss_one (ps_ret (pe_and (pe_call G_is_whole hr1 rfl g_is_whole k_is_whole b_is_whole .nil pass0 (pa_cons (pv 0) (pa_cons pe_int (pa_cons pe_int pa_nil)))) (pe_one (pe_call G_is_whole hr1 rfl g_is_whole k_is_whole b_is_whole .nil pass0 (pa_cons (pv 1) (pa_cons pe_int (pa_cons pe_int pa_nil)))))))), ?_⟩
  unfold m_is_need at P
  have st := Stp.refl (W := []) w
  refine h_ret (h_and ?_)
  refine h_call (h_cons (h_var rfl (h_cons (h_c (h_cons (h_c (h_nil ?_)))))))
  refine ⟨B0, v_back, a_back, 1, 200, w, rfl, (r_back.mono st.ex), (P.bind).mono (fun x1 P => ?_) (fun _ z => z)⟩
  refine fun v5 B2 H3 s4 r6 => ?_
  replace st := st.go s4 go0
  replace w := s4.ok
  cases r6
  refine h_bl ?_
  refine h_ite (fun c1 => ?_) (fun c1 => ?_)
  ·replace P := P.iteT c1
   refine h_call (h_cons (h_var rfl (h_cons (h_c (h_cons (h_c (h_nil ?_)))))))
   refine ⟨B2, v_cell, a_cell, 0, 15, w, rfl, (r_cell.mono st.ex), (P.bind).mono (fun x7 P => ?_) (fun _ z => z)⟩
   refine fun v11 B8 H9 s10 r12 => ?_
   replace st := st.go s10 go0
   replace w := s10.ok
   cases r12
   exact P.ok _ _ _ st (Rep.bl _)
  ·replace P := P.iteF c1
   exact P.ok _ _ _ st (Rep.bl _)
theorem ok_Mixed____init__ {f : Addr} {fd : FuncData} (F : Fun K "__init__" "Mixed.__init__" s_Mixed____init__ f fd) : FnOk Pr wo K mg base CX0 1 f fd ["self", "back", "cell", "other_back", "other_cell"] (spInit K ["back", "cell", "other_back", "other_cell"]) := by
 refine F.ok sc_Mixed____init__ (fun vs H Q E h => ?_) (fun cdv A outer s H vs Q E hr h => ?_)
 ·obtain ⟨_, _, _, us, rfl, hl, _⟩ := h
  exact congrArg Nat.succ hl
 ·obtain ⟨C, p, dx, us, rfl, hl, hp, hc, lo, k⟩ := h
  match us, hl with
  | [u1, u2, u3, u4], _ =>
   refine ⟨_, (pss_cons (ps_fld (pv 0) (pv 1) rfl) (pss_cons (ps_fld (pv 0) (pv 2) rfl) (pss_cons (ps_fld (pv 0) (pv 3) rfl) (pss_one (ps_fld (pv 0) (pv 4) rfl))))), ?_⟩
   have e1 : putF "back" u1 ([] : List (Str × V)) = ([("back", u1)] : List (Str × V)) := putE
   have h1 : (upd H p (HO.ins C dx (putF "back" u1 ([] : List (Str × V))))) p = some (HO.ins C dx ([("back", u1)] : List (Str × V))) := by rw [e1]; exact upd_same
   have e2 : putF "cell" u2 ([("back", u1)] : List (Str × V)) = ([("back", u1), ("cell", u2)] : List (Str × V)) := (putS (by decide +kernel) putE)
   have h2 : (upd (upd H p (HO.ins C dx (putF "back" u1 ([] : List (Str × V))))) p (HO.ins C dx (putF "cell" u2 ([("back", u1)] : List (Str × V))))) p = some (HO.ins C dx ([("back", u1), ("cell", u2)] : List (Str × V))) := by rw [e2]; exact upd_same
   have e3 : putF "other_back" u3 ([("back", u1), ("cell", u2)] : List (Str × V)) = ([("back", u1), ("cell", u2), ("other_back", u3)] : List (Str × V)) := (putS (by decide +kernel) (putS (by decide +kernel) putE))
   have h3 : (upd (upd (upd H p (HO.ins C dx (putF "back" u1 ([] : List (Str × V))))) p (HO.ins C dx (putF "cell" u2 ([("back", u1)] : List (Str × V))))) p (HO.ins C dx (putF "other_back" u3 ([("back", u1), ("cell", u2)] : List (Str × V))))) p = some (HO.ins C dx ([("back", u1), ("cell", u2), ("other_back", u3)] : List (Str × V))) := by rw [e3]; exact upd_same
   have e4 : putF "other_cell" u4 ([("back", u1), ("cell", u2), ("other_back", u3)] : List (Str × V)) = ([("back", u1), ("cell", u2), ("other_back", u3), ("other_cell", u4)] : List (Str × V)) := (putS (by decide +kernel) (putS (by decide +kernel) (putS (by decide +kernel) putE)))
   have eH : (upd (upd (upd (upd H p (HO.ins C dx (putF "back" u1 ([] : List (Str × V))))) p (HO.ins C dx (putF "cell" u2 ([("back", u1)] : List (Str × V))))) p (HO.ins C dx (putF "other_back" u3 ([("back", u1), ("cell", u2)] : List (Str × V))))) p (HO.ins C dx (putF "other_cell" u4 ([("back", u1), ("cell", u2), ("other_back", u3)] : List (Str × V))))) = upd H p (HO.ins C dx ([("back", u1), ("cell", u2), ("other_back", u3), ("other_cell", u4)] : List (Str × V))) := by rw [e1, e2, e3, e4, L2.upd_upd, L2.upd_upd, L2.upd_upd]
   have k2 : Q .non (upd H p (HO.ins C dx ([("back", u1), ("cell", u2), ("other_back", u3), ("other_cell", u4)] : List (Str × V)))) := k
   rw [← eH] at k2
   exact ⟨_, rfl, _, rfl, p, C, dx, ([] : List (Str × V)), rfl, hp, hc, lo.1, (by show 0 < 1000; decide), _, rfl, _, rfl, p, C, dx, ([("back", u1)] : List (Str × V)), rfl, h1, hc, lo.2.1, (by show 1 < 1000; decide), _, rfl, _, rfl, p, C, dx, ([("back", u1), ("cell", u2)] : List (Str × V)), rfl, h2, hc, lo.2.2.1, (by show 2 < 1000; decide), _, rfl, _, rfl, p, C, dx, ([("back", u1), ("cell", u2), ("other_back", u3)] : List (Str × V)), rfl, h3, hc, lo.2.2.2.1, (by show 3 < 1000; decide), k2⟩
theorem ok_rule_of {f : Addr} {fd : FuncData}  (F : Fun K "rule_of" "rule_of" s_rule_of f fd) {C_NoRule : Addr} (T_NoRule : ExcR K mg "NoRule" C_NoRule) {C_Plain : Addr} (T_Plain : KI K mg "Plain" C_Plain) {C_Moved : Addr} (T_Moved : KI K mg "Moved" C_Moved) {C_Mixed : Addr} (T_Mixed : KI K mg "Mixed" C_Mixed) {fi_Plain : Addr} {di_Plain : FuncData} (M_Plain : Mk K C_Plain fi_Plain) (lo_Plain : LaysOk K C_Plain ["worth"]) (bi_Plain : L2.Binds K di_Plain ["self", "value"] []) (Gi_Plain : FnOk Pr wo K mg base CX0 1 fi_Plain di_Plain ["self", "value"] (spInit K ["worth"])) {fi_Moved : Addr} {di_Moved : FuncData} (M_Moved : Mk K C_Moved fi_Moved) (lo_Moved : LaysOk K C_Moved ["back", "cell", "add"]) (bi_Moved : L2.Binds K di_Moved ["self", "back", "cell", "add"] []) (Gi_Moved : FnOk Pr wo K mg base CX0 1 fi_Moved di_Moved ["self", "back", "cell", "add"] (spInit K ["back", "cell", "add"])) {fi_Mixed : Addr} {di_Mixed : FuncData} (M_Mixed : Mk K C_Mixed fi_Mixed) (lo_Mixed : LaysOk K C_Mixed ["back", "cell", "other_back", "other_cell"]) (bi_Mixed : L2.Binds K di_Mixed ["self", "back", "cell", "other_back", "other_cell"] []) (Gi_Mixed : FnOk Pr wo K mg base CX0 1 fi_Mixed di_Mixed ["self", "back", "cell", "other_back", "other_cell"] (spInit K ["back", "cell", "other_back", "other_cell"])) (X_is_whole : Cal Pr wo K mg base "is_whole" ["thing", "low", "high"] CX0 1 (sp_is_whole K)) {f_is_need : Addr} {d_is_need : FuncData} (g_is_need : mg "is_need" = some (.ref f_is_need)) (k_is_need : PySem.W.keepIn K (.ref f_is_need) = true) (b_is_need : L2.Binds K d_is_need ["back", "cell"] []) (G_is_need : FnOk Pr wo K mg base CX0 2 f_is_need d_is_need ["back", "cell"] (sp_is_need K)) (kb_is_need_0_back_cell : KBinds K d_is_need ["back", "cell"] ["back", "cell"] (fun us ws => match us, ws with | [], [w0, w1] => [w0, w1] | _, _ => []) (fun us ws => match us, ws with | [], [w0, w1] => [w0, w1] | _, _ => [])) (bI_isinstance : mg "isinstance" = none) (bI_tuple : mg "tuple" = none) (bI_len : mg "len" = none) (kb_Moved____init___2_add : KBinds K di_Moved ["self", "back", "cell", "add"] ["add"] (fun us ws => match us, ws with | [u0, u1, u2], [w0] => [u0, u1, u2, w0] | _, _ => []) (fun us ws => match us, ws with | [u0, u1, u2], [w0] => [u0, u1, u2, w0] | _, _ => [])) (kb_Mixed____init___2_other_back_other_cell : KBinds K di_Mixed ["self", "back", "cell", "other_back", "other_cell"] ["other_back", "other_cell"] (fun us ws => match us, ws with | [u0, u1, u2], [w0, w1] => [u0, u1, u2, w0, w1] | _, _ => []) (fun us ws => match us, ws with | [u0, u1, u2], [w0, w1] => [u0, u1, u2, w0, w1] | _, _ => [])) : FnOk Pr wo K mg base (L2.CX Pr wo) 3 f fd ["told"] (sp_rule_of K mg) := by
 obtain ⟨_, _, g_is_whole, k_is_whole, b_is_whole, G_is_whole⟩ := X_is_whole
 refine F.okX sc_rule_of (fun vs H Q E h => ?_) (fun cdv A outer s H0 vs Q E hr h => ?_)
 ·obtain ⟨_, _, _, _, rfl, _⟩ := h; rfl
 ·obtain ⟨B0, v_told, a_told, w, rfl, r_told, P⟩ := h
  have hu := hu_of hr
  have hu64 := hu64_of hr
  have hr1 : Room 1 _ := hr.mono (by decide)
  have hr2 : Room 2 _ := hr.mono (by decide)
  refine ⟨_, (pss_cons (ps_if (PW.pt (pw_or (pt_not (pt_val (pe_callB (r := rIsi K) call_isi (by rfl) bI_isinstance PyProof.Rows.boot_isinstance (pa_cons (pv 0) (pa_cons (pe_bltn (v := .ty "tuple") (by rfl) bI_tuple Y.boot_tuple rfl) pa_nil))))) (pw_or1 (pt_cmpR op_eq (pe_callB (r := rLenY K) cr_len (by rfl) bI_len PySem.boot_len (pa_cons (pv 0) pa_nil)) pe_int (nomark _))))) (pss_one (ps_raise rfl (takes_of rfl rfl rfl rfl) (pmk_own PySem.F.excBase_ValueError T_NoRule.ex T_NoRule.g T_NoRule.kp (raises_own T_NoRule.ec.hs T_NoRule.ty) rfl))) pss_nil)
   (pss_cons (ps_if (PW.pt (pw_and (pt_cmpR (r := rEqD K) (op_eqD hu64) (pe_ix (r := rIxT K) ix_tup (pv 0) pe_int (fun _ _ => rfl)) pe_str (nomark _)) (pw_and (pt_cmpR op_eq (pe_callB (r := rLenY K) cr_len (by rfl) bI_len PySem.boot_len (pa_cons (pv 0) pa_nil)) pe_int (nomark _)) (pw_and1 (pt_val (pe_call G_is_whole hr1 rfl g_is_whole k_is_whole b_is_whole .nil pass0 (pa_cons (pe_ix (r := rIxT K) ix_tup (pv 0) pe_int (fun _ _ => rfl)) (pa_cons pe_int (pa_cons pe_int pa_nil))))))))) (pss_one (ps_ret (pe_make M_Plain Gi_Plain hr2 rfl T_Plain.g bi_Plain .nil pass0 (pa_cons (pe_ix (r := rIxT K) ix_tup (pv 0) pe_int (fun _ _ => rfl)) pa_nil)))) pss_nil)
   (pss_cons (ps_if (PW.pt (pw_and (pt_cmpR (r := rEqD K) (op_eqD hu64) (pe_ix (r := rIxT K) ix_tup (pv 0) pe_int (fun _ _ => rfl)) pe_str (nomark _)) (pw_and (pt_cmpR op_eq (pe_callB (r := rLenY K) cr_len (by rfl) bI_len PySem.boot_len (pa_cons (pv 0) pa_nil)) pe_int (nomark _)) (pw_and1 (pt_val (pe_call G_is_need hr2 rfl g_is_need k_is_need b_is_need .nil pass0 (pa_cons (pe_ix (r := rIxT K) ix_tup (pv 0) pe_int (fun _ _ => rfl)) (pa_cons (pe_ix (r := rIxT K) ix_tup (pv 0) pe_int (fun _ _ => rfl)) pa_nil)))))))) (pss_one (ps_if (pt_val (pe_call G_is_whole hr1 rfl g_is_whole k_is_whole b_is_whole .nil pass0 (pa_cons (pe_ix (r := rIxT K) ix_tup (pv 0) pe_int (fun _ _ => rfl)) (pa_cons pe_int (pa_cons pe_int pa_nil))))) (pss_one (ps_ret (pe_makeB M_Moved Gi_Moved hr2 rfl T_Moved.g kb_Moved____init___2_add pass0 (pa_cons (pe_ix (r := rIxT K) ix_tup (pv 0) pe_int (fun _ _ => rfl)) (pa_cons (pe_ix (r := rIxT K) ix_tup (pv 0) pe_int (fun _ _ => rfl)) pa_nil)) (pk_cons (pe_ix (r := rIxT K) ix_tup (pv 0) pe_int (fun _ _ => rfl)) pk_nil)))) pss_nil)) pss_nil)
   (pss_cons (ps_if (PW.pt (pw_and (pt_cmpR (r := rEqD K) (op_eqD hu64) (pe_ix (r := rIxT K) ix_tup (pv 0) pe_int (fun _ _ => rfl)) pe_str (nomark _)) (pw_and1 (pt_cmpR op_eq (pe_callB (r := rLenY K) cr_len (by rfl) bI_len PySem.boot_len (pa_cons (pv 0) pa_nil)) pe_int (nomark _))))) (pss_one (ps_if (PW.pt (pw_and (pt_val (pe_call G_is_need hr2 rfl g_is_need k_is_need b_is_need .nil pass0 (pa_cons (pe_ix (r := rIxT K) ix_tup (pv 0) pe_int (fun _ _ => rfl)) (pa_cons (pe_ix (r := rIxT K) ix_tup (pv 0) pe_int (fun _ _ => rfl)) pa_nil)))) (pw_and1 (pt_val (pe_callK0 G_is_need hr2 rfl g_is_need k_is_need kb_is_need_0_back_cell pass0 (pk_cons (pe_ix (r := rIxT K) ix_tup (pv 0) pe_int (fun _ _ => rfl)) (pk_cons (pe_ix (r := rIxT K) ix_tup (pv 0) pe_int (fun _ _ => rfl)) pk_nil))))))) (pss_one (ps_ret (pe_makeB M_Mixed Gi_Mixed hr2 rfl T_Mixed.g kb_Mixed____init___2_other_back_other_cell pass0 (pa_cons (pe_ix (r := rIxT K) ix_tup (pv 0) pe_int (fun _ _ => rfl)) (pa_cons (pe_ix (r := rIxT K) ix_tup (pv 0) pe_int (fun _ _ => rfl)) pa_nil)) (pk_cons (pe_ix (r := rIxT K) ix_tup (pv 0) pe_int (fun _ _ => rfl)) (pk_cons (pe_ix (r := rIxT K) ix_tup (pv 0) pe_int (fun _ _ => rfl)) pk_nil))))) pss_nil)) pss_nil)
   (pss_one (ps_raise rfl (takes_of rfl rfl rfl rfl) (pmk_own PySem.F.excBase_ValueError T_NoRule.ex T_NoRule.g T_NoRule.kp (raises_own T_NoRule.ec.hs T_NoRule.ty) rfl))))))), ?_⟩
  unfold m_rule_of at P
  have st := Stp.refl (W := []) w
  refine h_seq <| h_if ?_
  refine h_tor ?_
  refine h_tnot ?_
  refine h_tB ?_
  refine h_cb (h_cons (h_var rfl (h_cons (h_c (h_nil ?_)))))
  refine isi (t := "tuple") w (r_told.mono st.ex) ?_
  refine h_bl ?_
  refine h_iteN (fun c1 => ?_) (fun c1 => ?_)
  ·replace P := P.iteF c1
   refine h_iteT ?_
   exact P.err _ none _ _ T_NoRule.g st rfl
  ·replace P := P.iteT c1
   refine h_test ?_
   refine h_op (h_cb (h_cons (h_var rfl (h_nil ?_))))
   obtain ⟨l1, hl2, P⟩ := P.asT
   have rc3 := (r_told.mono st.ex)
   rw [hl2] at rc3
   obtain ⟨p4, xs5, rfl, hs6, hr7⟩ := Rep.st w rc3
   refine h_lenTl hs6 hr7 ?_
   refine h_c (h_eqI ?_)
   refine h_bl ?_
   refine h_ite (fun c1 => ?_) (fun c1 => ?_)
   ·replace P := P.iteT c1
    exact P.err _ none _ _ T_NoRule.g st rfl
   ·replace P := P.iteF c1
    refine h_next ?_
    refine h_nx ?_
    refine h_seq <| h_if ?_
    have wj9 := w
    have sj8 := Stp.refl (W := []) w
    refine h_condJ P (fun H' => ∃ B', Stp [] B0 H0 B' H') (fun N kk10 P => ?_) ?_
    ·skip
     refine h_tand ?_
     refine h_test ?_
     refine h_op (h_op (h_var rfl (h_c ?_)))
     obtain ⟨l11, hl12, P⟩ := P.asT
     have rc13 := (r_told.mono st.ex)
     rw [hl12] at rc13
     obtain ⟨p14, xs15, hv, hs16, hr17⟩ := Rep.st w rc13
     cases hv
     obtain ⟨x18, hx19, P⟩ := P.ix
     obtain ⟨u20, hu, r21⟩ := RepL.atE hr17 hx19
     refine h_ixT hs16 hu ?_
     refine h_c ?_
     obtain ⟨gd, P⟩ := P.guard
     refine h_eqD (d := x18) (e := (enc ("plain" : Str))) w r21 (Rep.str _) gd ?_
     refine h_bl ?_
     refine h_ite (fun c1 => ?_) (fun c1 => ?_)
     ·replace P := P.iteT c1
      refine h_tand ?_
      refine h_test ?_
      refine h_op (h_cb (h_cons (h_var rfl (h_nil ?_))))
      obtain ⟨l22, hl23, P⟩ := P.asT
      have rc24 := (r_told.mono st.ex)
      rw [hl23] at rc24
      obtain ⟨p25, xs26, hv, hs27, hr28⟩ := Rep.st w rc24
      cases hv
      refine h_lenTl hs27 hr28 ?_
      refine h_c (h_eqI ?_)
      refine h_bl ?_
      refine h_ite (fun c1 => ?_) (fun c1 => ?_)
      ·replace P := P.iteT c1
       refine h_tB ?_
       refine h_call (h_cons (h_op (h_var rfl (h_c ?_))))
       obtain ⟨l29, hl30, P⟩ := P.asT
       have rc31 := (r_told.mono st.ex)
       rw [hl30] at rc31
       obtain ⟨p32, xs33, hv, hs34, hr35⟩ := Rep.st w rc31
       cases hv
       obtain ⟨x36, hx37, P⟩ := P.ix
       obtain ⟨u38, hu, r39⟩ := RepL.atE hr35 hx37
       refine h_ixT hs34 hu ?_
       refine h_cons (h_c (h_cons (h_c (h_nil ?_))))
       refine ⟨B0, u38, x36, 0, 255, w, rfl, r39, (P.bind.noErr).mono (fun x40 P => ?_) (fun _ z => z.elim)⟩
       refine fun v44 B41 H42 s43 r45 => ?_
       replace r39 := r39.mono s43.ex
       replace st := st.go s43 go0
       replace sj8 := sj8.go s43 go0
       replace w := s43.ok
       cases r45
       refine h_bl ?_
       exact kk10 _ _ ⟨_, sj8⟩ P.ok
      ·replace P := P.iteF c1
       exact kk10 _ _ ⟨_, sj8⟩ P.ok
     ·replace P := P.iteF c1
      exact kk10 _ _ ⟨_, sj8⟩ P.ok
    rintro b46 H48 ⟨B47, s49⟩ P
    replace st := st.go s49 go0
    replace w := s49.ok
    refine h_ite (fun c1 => ?_) (fun c1 => ?_)
    ·replace P := P.iteT c1
     refine h_ret (h_makeE ?_)
     refine h_cons (h_op (h_var rfl (h_c ?_)))
     obtain ⟨l50, hl51, P⟩ := P.asT
     have rc52 := (r_told.mono st.ex)
     rw [hl51] at rc52
     obtain ⟨p53, xs54, hv, hs55, hr56⟩ := Rep.st w rc52
     cases hv
     obtain ⟨x57, hx58, P⟩ := P.ix
     obtain ⟨u59, hu, r60⟩ := RepL.atE hr56 hx58
     refine h_ixT hs55 hu ?_
     refine h_nil ?_
     obtain ⟨i61, hi62, P⟩ := P.asI
     have rc63 := r60
     rw [hi62] at rc63
     cases rc63
     refine h_make (us := [.int i61]) (ns := ["worth"]) rfl w T_Plain.toKC lo_Plain (ds := [("worth", enc (i61 : Int))]) (.cons (Rep.int _) .nil) (fun p64 B65 H66 s67 r68 => ?_)
     replace r60 := r60.mono s67.ex
     replace st := st.go s67 go0
     replace w := s67.ok
     replace r68 : Rep K B65 (.ref p64) (enc (K_Rule.Plain i61)) := r68
     exact P.ok _ _ _ st r68
    ·replace P := P.iteF c1
     refine h_next ?_
     refine h_nx ?_
     have wj70 := w
     have sj69 := Stp.refl (W := []) w
     refine h_joinF P (fun (a : Unit) σ' H' => ∃ (B' : Hp), Stp [] B47 H48 B' H' ∧ σ' = [some ((.ref p4))]) (fun N Tkr72 kk71 kr72 P => h_if ?_) ?_
     ·skip
      have wj74 := w
      have sj73 := Stp.refl (W := []) w
      refine h_condJ P (fun H' => ∃ B', Stp [] B47 H48 B' H') (fun N kk75 P => ?_) ?_
      ·skip
       refine h_tand ?_
       refine h_test ?_
       refine h_op (h_op (h_var rfl (h_c ?_)))
       obtain ⟨l76, hl77, P⟩ := P.asT
       have rc78 := (r_told.mono st.ex)
       rw [hl77] at rc78
       obtain ⟨p79, xs80, hv, hs81, hr82⟩ := Rep.st w rc78
       cases hv
       obtain ⟨x83, hx84, P⟩ := P.ix
       obtain ⟨u85, hu, r86⟩ := RepL.atE hr82 hx84
       refine h_ixT hs81 hu ?_
       refine h_c ?_
       obtain ⟨gd, P⟩ := P.guard
       refine h_eqD (d := x83) (e := (enc ("moved" : Str))) w r86 (Rep.str _) gd ?_
       refine h_bl ?_
       refine h_ite (fun c1 => ?_) (fun c1 => ?_)
       ·replace P := P.iteT c1
        refine h_tand ?_
        refine h_test ?_
        refine h_op (h_cb (h_cons (h_var rfl (h_nil ?_))))
        obtain ⟨l87, hl88, P⟩ := P.asT
        have rc89 := (r_told.mono st.ex)
        rw [hl88] at rc89
        obtain ⟨p90, xs91, hv, hs92, hr93⟩ := Rep.st w rc89
        cases hv
        refine h_lenTl hs92 hr93 ?_
        refine h_c (h_eqI ?_)
        refine h_bl ?_
        refine h_ite (fun c1 => ?_) (fun c1 => ?_)
        ·replace P := P.iteT c1
         refine h_tB ?_
         refine h_call (h_cons (h_op (h_var rfl (h_c ?_))))
         obtain ⟨l94, hl95, P⟩ := P.asT
         have rc96 := (r_told.mono st.ex)
         rw [hl95] at rc96
         obtain ⟨p97, xs98, hv, hs99, hr100⟩ := Rep.st w rc96
         cases hv
         obtain ⟨x101, hx102, P⟩ := P.ix
         obtain ⟨u103, hu, r104⟩ := RepL.atE hr100 hx102
         refine h_ixT hs99 hu ?_
         refine h_cons (h_op (h_var rfl (h_c ?_)))
         obtain ⟨l105, hl106, P⟩ := P.asT
         have rc107 := (r_told.mono st.ex)
         rw [hl106] at rc107
         obtain ⟨p108, xs109, hv, hs110, hr111⟩ := Rep.st w rc107
         cases hv
         obtain ⟨x112, hx113, P⟩ := P.ix
         obtain ⟨u114, hu, r115⟩ := RepL.atE hr111 hx113
         refine h_ixT hs110 hu ?_
         refine h_nil ?_
         refine ⟨B47, u103, x101, u114, x112, w, rfl, r104, r115, (P.bind.noErr).mono (fun x116 P => ?_) (fun _ z => z.elim)⟩
         refine fun v120 B117 H118 s119 r121 => ?_
         replace r104 := r104.mono s119.ex
         replace r115 := r115.mono s119.ex
         replace st := st.go s119 go0
         replace sj69 := sj69.go s119 go0
         replace sj73 := sj73.go s119 go0
         replace w := s119.ok
         cases r121
         refine h_bl ?_
         exact kk75 _ _ ⟨_, sj73⟩ P.ok
        ·replace P := P.iteF c1
         exact kk75 _ _ ⟨_, sj73⟩ P.ok
       ·replace P := P.iteF c1
        exact kk75 _ _ ⟨_, sj73⟩ P.ok
      rintro b122 H124 ⟨B123, s125⟩ P
      replace st := st.go s125 go0
      replace sj69 := sj69.go s125 go0
      replace w := s125.ok
      refine h_ite (fun c1 => ?_) (fun c1 => ?_)
      ·replace P := P.iteT c1
       refine h_if ?_
       refine h_tB ?_
       refine h_call (h_cons (h_op (h_var rfl (h_c ?_))))
       obtain ⟨l126, hl127, P⟩ := P.asT
       have rc128 := (r_told.mono st.ex)
       rw [hl127] at rc128
       obtain ⟨p129, xs130, hv, hs131, hr132⟩ := Rep.st w rc128
       cases hv
       obtain ⟨x133, hx134, P⟩ := P.ix
       obtain ⟨u135, hu, r136⟩ := RepL.atE hr132 hx134
       refine h_ixT hs131 hu ?_
       refine h_cons (h_c (h_cons (h_c (h_nil ?_))))
       refine ⟨B123, u135, x133, 0, 255, w, rfl, r136, (P.bind.noErr).mono (fun x137 P => ?_) (fun _ z => z.elim)⟩
       refine fun v141 B138 H139 s140 r142 => ?_
       replace r136 := r136.mono s140.ex
       replace st := st.go s140 go0
       replace sj69 := sj69.go s140 go0
       replace w := s140.ok
       cases r142
       refine h_bl ?_
       refine h_ite (fun c1 => ?_) (fun c1 => ?_)
       ·replace P := P.iteT c1
        refine h_ret (h_makeBE ?_)
        refine h_cons (h_op (h_var rfl (h_c ?_)))
        obtain ⟨l143, hl144, P⟩ := P.asT
        have rc145 := (r_told.mono st.ex)
        rw [hl144] at rc145
        obtain ⟨p146, xs147, hv, hs148, hr149⟩ := Rep.st w rc145
        cases hv
        obtain ⟨x150, hx151, P⟩ := P.ix
        obtain ⟨u152, hu, r153⟩ := RepL.atE hr149 hx151
        refine h_ixT hs148 hu ?_
        refine h_cons (h_op (h_var rfl (h_c ?_)))
        obtain ⟨l154, hl155, P⟩ := P.asT
        have rc156 := (r_told.mono st.ex)
        rw [hl155] at rc156
        obtain ⟨p157, xs158, hv, hs159, hr160⟩ := Rep.st w rc156
        cases hv
        obtain ⟨x161, hx162, P⟩ := P.ix
        obtain ⟨u163, hu, r164⟩ := RepL.atE hr160 hx162
        refine h_ixT hs159 hu ?_
        refine h_nil (h_cons (h_op (h_var rfl (h_c ?_))))
        obtain ⟨l165, hl166, P⟩ := P.asT
        have rc167 := (r_told.mono st.ex)
        rw [hl166] at rc167
        obtain ⟨p168, xs169, hv, hs170, hr171⟩ := Rep.st w rc167
        cases hv
        obtain ⟨x172, hx173, P⟩ := P.ix
        obtain ⟨u174, hu, r175⟩ := RepL.atE hr171 hx173
        refine h_ixT hs170 hu ?_
        refine h_nil ?_
        obtain ⟨i176, hi177, P⟩ := P.asI
        have rc178 := r153
        rw [hi177] at rc178
        cases rc178
        obtain ⟨i179, hi180, P⟩ := P.asI
        have rc181 := r164
        rw [hi180] at rc181
        cases rc181
        obtain ⟨i182, hi183, P⟩ := P.asI
        have rc184 := r175
        rw [hi183] at rc184
        cases rc184
        refine h_make (us := [.int i176, .int i179, .int i182]) (ns := ["back", "cell", "add"]) rfl w T_Moved.toKC lo_Moved (ds := [("back", enc (i176 : Int)), ("cell", enc (i179 : Int)), ("add", enc (i182 : Int))]) (.cons (Rep.int _) (.cons (Rep.int _) (.cons (Rep.int _) .nil))) (fun p185 B186 H187 s188 r189 => ?_)
        replace r153 := r153.mono s188.ex
        replace r164 := r164.mono s188.ex
        replace r175 := r175.mono s188.ex
        replace st := st.go s188 go0
        replace sj69 := sj69.go s188 go0
        replace w := s188.ok
        replace r189 : Rep K B186 (.ref p185) (enc (K_Rule.Moved i176 i179 i182)) := r189
        exact (kr72 _ P.ok) _ _ _ st r189
       ·replace P := P.iteF c1
        refine h_next ?_
        refine h_nx ?_
        exact kk71 () _ _ ⟨_, sj69, rfl⟩ P.ok
      ·replace P := P.iteF c1
       refine h_next ?_
       refine h_nx ?_
       exact kk71 () _ _ ⟨_, sj69, rfl⟩ P.ok
     rintro a190 _ H192 ⟨B191, s193, rfl⟩ P
     replace st := st.go s193 go0
     replace w := s193.ok
     have wj195 := w
     have sj194 := Stp.refl (W := []) w
     refine h_joinF P (fun (a : Unit) σ' H' => ∃ (B' : Hp), Stp [] B191 H192 B' H' ∧ σ' = [some ((.ref p4))]) (fun N Tkr197 kk196 kr197 P => h_if ?_) ?_
     ·skip
      have wj199 := w
      have sj198 := Stp.refl (W := []) w
      refine h_condJ P (fun H' => ∃ B', Stp [] B191 H192 B' H') (fun N kk200 P => ?_) ?_
      ·skip
       refine h_tand ?_
       refine h_test ?_
       refine h_op (h_op (h_var rfl (h_c ?_)))
       obtain ⟨l201, hl202, P⟩ := P.asT
       have rc203 := (r_told.mono st.ex)
       rw [hl202] at rc203
       obtain ⟨p204, xs205, hv, hs206, hr207⟩ := Rep.st w rc203
       cases hv
       obtain ⟨x208, hx209, P⟩ := P.ix
       obtain ⟨u210, hu, r211⟩ := RepL.atE hr207 hx209
       refine h_ixT hs206 hu ?_
       refine h_c ?_
       obtain ⟨gd, P⟩ := P.guard
       refine h_eqD (d := x208) (e := (enc ("mixed" : Str))) w r211 (Rep.str _) gd ?_
       refine h_bl ?_
       refine h_ite (fun c1 => ?_) (fun c1 => ?_)
       ·replace P := P.iteT c1
        refine h_test ?_
        refine h_op (h_cb (h_cons (h_var rfl (h_nil ?_))))
        obtain ⟨l212, hl213, P⟩ := P.asT
        have rc214 := (r_told.mono st.ex)
        rw [hl213] at rc214
        obtain ⟨p215, xs216, hv, hs217, hr218⟩ := Rep.st w rc214
        cases hv
        refine h_lenTl hs217 hr218 ?_
        refine h_c (h_eqI ?_)
        refine h_bl ?_
        exact kk200 _ _ ⟨_, sj198⟩ P.ok
       ·replace P := P.iteF c1
        exact kk200 _ _ ⟨_, sj198⟩ P.ok
      rintro b219 H221 ⟨B220, s222⟩ P
      replace st := st.go s222 go0
      replace sj194 := sj194.go s222 go0
      replace w := s222.ok
      refine h_ite (fun c1 => ?_) (fun c1 => ?_)
      ·replace P := P.iteT c1
       refine h_if ?_
       have wj224 := w
       have sj223 := Stp.refl (W := []) w
       refine h_condJ P (fun H' => ∃ B', Stp [] B220 H221 B' H') (fun N kk225 P => ?_) ?_
       ·skip
        refine h_tand ?_
        refine h_tB ?_
        refine h_call (h_cons (h_op (h_var rfl (h_c ?_))))
        obtain ⟨l226, hl227, P⟩ := P.asT
        have rc228 := (r_told.mono st.ex)
        rw [hl227] at rc228
        obtain ⟨p229, xs230, hv, hs231, hr232⟩ := Rep.st w rc228
        cases hv
        obtain ⟨x233, hx234, P⟩ := P.ix
        obtain ⟨u235, hu, r236⟩ := RepL.atE hr232 hx234
        refine h_ixT hs231 hu ?_
        refine h_cons (h_op (h_var rfl (h_c ?_)))
        obtain ⟨l237, hl238, P⟩ := P.asT
        have rc239 := (r_told.mono st.ex)
        rw [hl238] at rc239
        obtain ⟨p240, xs241, hv, hs242, hr243⟩ := Rep.st w rc239
        cases hv
        obtain ⟨x244, hx245, P⟩ := P.ix
        obtain ⟨u246, hu, r247⟩ := RepL.atE hr243 hx245
        refine h_ixT hs242 hu ?_
        refine h_nil ?_
        refine ⟨B220, u235, x233, u246, x244, w, rfl, r236, r247, (P.bind.noErr).mono (fun x248 P => ?_) (fun _ z => z.elim)⟩
        refine fun v252 B249 H250 s251 r253 => ?_
        replace r236 := r236.mono s251.ex
        replace r247 := r247.mono s251.ex
        replace st := st.go s251 go0
        replace sj194 := sj194.go s251 go0
        replace sj223 := sj223.go s251 go0
        replace w := s251.ok
        cases r253
        refine h_bl ?_
        refine h_ite (fun c1 => ?_) (fun c1 => ?_)
        ·replace P := P.iteT c1
         refine h_tB ?_
         refine h_callK0 ?_
         refine h_cons (h_op (h_var rfl (h_c ?_)))
         obtain ⟨l254, hl255, P⟩ := P.asT
         have rc256 := (r_told.mono st.ex)
         rw [hl255] at rc256
         obtain ⟨p257, xs258, hv, hs259, hr260⟩ := Rep.st w rc256
         cases hv
         obtain ⟨x261, hx262, P⟩ := P.ix
         obtain ⟨u263, hu, r264⟩ := RepL.atE hr260 hx262
         refine h_ixT hs259 hu ?_
         refine h_cons (h_op (h_var rfl (h_c ?_)))
         obtain ⟨l265, hl266, P⟩ := P.asT
         have rc267 := (r_told.mono st.ex)
         rw [hl266] at rc267
         obtain ⟨p268, xs269, hv, hs270, hr271⟩ := Rep.st w rc267
         cases hv
         obtain ⟨x272, hx273, P⟩ := P.ix
         obtain ⟨u274, hu, r275⟩ := RepL.atE hr271 hx273
         refine h_ixT hs270 hu ?_
         refine h_nil ?_
         refine ⟨B249, u263, x261, u274, x272, w, rfl, r264, r275, (P.bind.noErr).mono (fun x276 P => ?_) (fun _ z => z.elim)⟩
         refine fun v280 B277 H278 s279 r281 => ?_
         replace r264 := r264.mono s279.ex
         replace r275 := r275.mono s279.ex
         replace st := st.go s279 go0
         replace sj194 := sj194.go s279 go0
         replace sj223 := sj223.go s279 go0
         replace w := s279.ok
         cases r281
         refine h_bl ?_
         exact kk225 _ _ ⟨_, sj223⟩ P.ok
        ·replace P := P.iteF c1
         exact kk225 _ _ ⟨_, sj223⟩ P.ok
       rintro b282 H284 ⟨B283, s285⟩ P
       replace st := st.go s285 go0
       replace sj194 := sj194.go s285 go0
       replace w := s285.ok
       refine h_ite (fun c1 => ?_) (fun c1 => ?_)
       ·replace P := P.iteT c1
        refine h_ret (h_makeBE ?_)
        refine h_cons (h_op (h_var rfl (h_c ?_)))
        obtain ⟨l286, hl287, P⟩ := P.asT
        have rc288 := (r_told.mono st.ex)
        rw [hl287] at rc288
        obtain ⟨p289, xs290, hv, hs291, hr292⟩ := Rep.st w rc288
        cases hv
        obtain ⟨x293, hx294, P⟩ := P.ix
        obtain ⟨u295, hu, r296⟩ := RepL.atE hr292 hx294
        refine h_ixT hs291 hu ?_
        refine h_cons (h_op (h_var rfl (h_c ?_)))
        obtain ⟨l297, hl298, P⟩ := P.asT
        have rc299 := (r_told.mono st.ex)
        rw [hl298] at rc299
        obtain ⟨p300, xs301, hv, hs302, hr303⟩ := Rep.st w rc299
        cases hv
        obtain ⟨x304, hx305, P⟩ := P.ix
        obtain ⟨u306, hu, r307⟩ := RepL.atE hr303 hx305
        refine h_ixT hs302 hu ?_
        refine h_nil (h_cons (h_op (h_var rfl (h_c ?_))))
        obtain ⟨l308, hl309, P⟩ := P.asT
        have rc310 := (r_told.mono st.ex)
        rw [hl309] at rc310
        obtain ⟨p311, xs312, hv, hs313, hr314⟩ := Rep.st w rc310
        cases hv
        obtain ⟨x315, hx316, P⟩ := P.ix
        obtain ⟨u317, hu, r318⟩ := RepL.atE hr314 hx316
        refine h_ixT hs313 hu ?_
        refine h_cons (h_op (h_var rfl (h_c ?_)))
        obtain ⟨l319, hl320, P⟩ := P.asT
        have rc321 := (r_told.mono st.ex)
        rw [hl320] at rc321
        obtain ⟨p322, xs323, hv, hs324, hr325⟩ := Rep.st w rc321
        cases hv
        obtain ⟨x326, hx327, P⟩ := P.ix
        obtain ⟨u328, hu, r329⟩ := RepL.atE hr325 hx327
        refine h_ixT hs324 hu ?_
        refine h_nil ?_
        obtain ⟨i330, hi331, P⟩ := P.asI
        have rc332 := r296
        rw [hi331] at rc332
        cases rc332
        obtain ⟨i333, hi334, P⟩ := P.asI
        have rc335 := r307
        rw [hi334] at rc335
        cases rc335
        obtain ⟨i336, hi337, P⟩ := P.asI
        have rc338 := r318
        rw [hi337] at rc338
        cases rc338
        obtain ⟨i339, hi340, P⟩ := P.asI
        have rc341 := r329
        rw [hi340] at rc341
        cases rc341
        refine h_make (us := [.int i330, .int i333, .int i336, .int i339]) (ns := ["back", "cell", "other_back", "other_cell"]) rfl w T_Mixed.toKC lo_Mixed (ds := [("back", enc (i330 : Int)), ("cell", enc (i333 : Int)), ("other_back", enc (i336 : Int)), ("other_cell", enc (i339 : Int))]) (.cons (Rep.int _) (.cons (Rep.int _) (.cons (Rep.int _) (.cons (Rep.int _) .nil)))) (fun p342 B343 H344 s345 r346 => ?_)
        replace r296 := r296.mono s345.ex
        replace r307 := r307.mono s345.ex
        replace r318 := r318.mono s345.ex
        replace r329 := r329.mono s345.ex
        replace st := st.go s345 go0
        replace sj194 := sj194.go s345 go0
        replace w := s345.ok
        replace r346 : Rep K B343 (.ref p342) (enc (K_Rule.Mixed i330 i333 i336 i339)) := r346
        exact (kr197 _ P.ok) _ _ _ st r346
       ·replace P := P.iteF c1
        refine h_next ?_
        refine h_nx ?_
        exact kk196 () _ _ ⟨_, sj194, rfl⟩ P.ok
      ·replace P := P.iteF c1
       refine h_next ?_
       refine h_nx ?_
       exact kk196 () _ _ ⟨_, sj194, rfl⟩ P.ok
     rintro a347 _ H349 ⟨B348, s350, rfl⟩ P
     replace st := st.go s350 go0
     replace w := s350.ok
     exact P.err _ none _ _ T_NoRule.g st rfl
theorem ok_Woven__rule {f : Addr} {fd : FuncData}  (F : Fun K "rule" "Woven.rule" s_Woven__rule f fd) {C_NoCell : Addr} (T_NoCell : ExcR K mg "NoCell" C_NoCell) {C_Woven : Addr} (T_Woven : KI K mg "Woven" C_Woven) (n_Woven_rules : NoAttr K C_Woven "rules") (X_rule_of : Cal Pr wo K mg base "rule_of" ["told"] (L2.CX Pr wo) 3 (sp_rule_of K mg)) (X_is_whole : Cal Pr wo K mg base "is_whole" ["thing", "low", "high"] CX0 1 (sp_is_whole K)) (bI_len : mg "len" = none) : FnOk Pr wo K mg base (L2.CX Pr wo) 4 f fd ["self", "cell"] (sp_Woven__rule K mg) := by
 obtain ⟨_, _, g_rule_of, k_rule_of, b_rule_of, G_rule_of⟩ := X_rule_of
 obtain ⟨_, _, g_is_whole, k_is_whole, b_is_whole, G_is_whole⟩ := X_is_whole
 refine F.okX sc_Woven__rule (fun vs H Q E h => ?_) (fun cdv A outer s H0 vs Q E hr h => ?_)
 ·obtain ⟨_, _, _, _, _, _, _, _, rfl, _⟩ := h; rfl
 ·obtain ⟨B0, v_self, s_begin, s_span, s_rules, v_cell, a_cell, w, rfl, r_self, r_cell, P⟩ := h
  have hu := hu_of hr
  have hr1 : Room 1 _ := hr.mono (by decide)
  have hr3 : Room 3 _ := hr.mono (by decide)
  refine ⟨_, (pss_cons (ps_if (pt_not (pt_val (pe_call G_is_whole hr1 rfl g_is_whole k_is_whole b_is_whole .nil pass0 (pa_cons (pv 1) (pa_cons pe_int (pa_cons (pe_op op_sub (pe_callB (r := rLenY K) cr_len (by rfl) bI_len PySem.boot_len (pa_cons (pe_fldK (K := K) rfl (pv 0) (by rfl)) pa_nil)) pe_int) pa_nil)))))) (pss_one (ps_raise rfl (takes_of rfl rfl rfl rfl) (pmk_own PySem.F.excBase_ValueError T_NoCell.ex T_NoCell.g T_NoCell.kp (raises_own T_NoCell.ec.hs T_NoCell.ty) rfl))) pss_nil)
   (pss_one (ps_ret (pe_callS G_rule_of hr3 rfl g_rule_of k_rule_of b_rule_of (fun σ => passAt (takes_of rfl rfl rfl rfl) σ) (pa_cons (pe_ix (r := rIxT K) ix_tup (pe_fldK (K := K) rfl (pv 0) (by rfl)) (pv 1) (fun _ _ => rfl)) pa_nil))))), ?_⟩
  unfold m_Woven__rule at P
  have st := Stp.refl (W := []) w
  refine h_seq <| h_if ?_
  refine h_tnot ?_
  refine h_tB ?_
  refine h_call (h_cons (h_var rfl (h_cons (h_c (h_cons (h_op (h_cb (h_cons (h_fldE (h_var rfl ?_))))))))))
  refine h_fld w (r_self.mono st.ex) T_Woven.toKC n_Woven_rules (d := enc (s_rules : D)) (lkS (by decide +kernel) (lkS (by decide +kernel) lk0)) (fun u1 r2 => ?_)
  refine h_nil ?_
  obtain ⟨l3, hl4, P⟩ := P.asT
  have rc5 := r2
  rw [hl4] at rc5
  obtain ⟨p6, xs7, rfl, hs8, hr9⟩ := Rep.st w rc5
  refine h_lenTl hs8 hr9 ?_
  refine h_c (h_I0 (h_nil ?_))
  refine ⟨B0, v_cell, a_cell, 0, ((l3.length : Int) - 1), w, rfl, (r_cell.mono st.ex), (P.bind.noErr).mono (fun x10 P => ?_) (fun _ z => z.elim)⟩
  refine fun v14 B11 H12 s13 r15 => ?_
  replace st := st.go s13 go0
  replace w := s13.ok
  cases r15
  refine h_bl ?_
  refine h_iteN (fun c1 => ?_) (fun c1 => ?_)
  ·replace P := P.iteF c1
   exact P.err _ none _ _ T_NoCell.g st rfl
  ·replace P := P.iteT c1
   refine h_next ?_
   refine h_nx ?_
   refine h_ret (h_callS ?_)
   refine h_cons (h_op (h_fldE (h_var rfl ?_)))
   refine h_fld w (r_self.mono st.ex) T_Woven.toKC n_Woven_rules (d := enc (s_rules : D)) (lkS (by decide +kernel) (lkS (by decide +kernel) lk0)) (fun u16 r17 => ?_)
   refine h_var rfl ?_
   obtain ⟨i18, hi19, P⟩ := P.asI
   have rc20 := (r_cell.mono st.ex)
   rw [hi19] at rc20
   cases rc20
   obtain ⟨l21, hl22, P⟩ := P.asT
   have rc23 := r17
   rw [hl22] at rc23
   obtain ⟨p24, xs25, rfl, hs26, hr27⟩ := Rep.st w rc23
   obtain ⟨x28, hx29, P⟩ := P.ix
   obtain ⟨u30, hu, r31⟩ := RepL.atE hr27 hx29
   refine h_ixT hs26 hu ?_
   refine h_nil ?_
   refine ⟨B11, u30, x28, w, rfl, r31, Post.mono2 P.bind (fun e38 P => ?_) (fun x32 P => ?_)⟩
   ·skip
    exact fun C d B' H' g s hd => P C d B' H' g (st.go s go0) hd
   refine fun v36 B33 H34 s35 r37 => ?_
   replace r31 := r31.mono s35.ex
   replace st := st.go s35 go0
   replace w := s35.ok
   exact P.ok _ _ _ st r37
theorem ok_needs_of {f : Addr} {fd : FuncData}  (F : Fun K "needs_of" "needs_of" s_needs_of f fd) {C_Full : Addr} (T_Full : KI K mg "Full" C_Full) {C_Still : Addr} (T_Still : KI K mg "Still" C_Still) {C_Woven : Addr} (T_Woven : KI K mg "Woven" C_Woven) {C_Plain : Addr} (T_Plain : KI K mg "Plain" C_Plain) {C_Moved : Addr} (T_Moved : KI K mg "Moved" C_Moved) {C_Mixed : Addr} (T_Mixed : KI K mg "Mixed" C_Mixed) (L_Leaf__rule : ∀ C sp, A_Leaf__rule K mg C_Full C_Still C_Woven C sp → MAlt Pr wo K mg base (L2.CX Pr wo) 4 "rule" C sp) (L_Rule__needs : ∀ C sp, A_Rule__needs K mg C_Plain C_Moved C_Mixed C sp → MAlt Pr wo K mg base CX0 1 "needs" C sp) : FnOk Pr wo K mg base CX0 5 f fd ["leaves", "pair"] (sp_needs_of K) := by
 refine F.ok sc_needs_of (fun vs H Q E h => ?_) (fun cdv A outer s H0 vs Q E hr h => ?_)
 ·obtain ⟨_, _, _, _, _, _, rfl, _⟩ := h; rfl
 ·obtain ⟨B0, p_leaves, a_leaves, v_pair, a_pair, w, rfl, m_leaves, r_pair, P⟩ := h
  have w0 := w
  have hu64 := hu64_of hr
  have hr1 : Room 1 _ := hr.mono (by decide)
  have hr4 : Room 4 _ := hr.mono (by decide)
  refine ⟨_, (pss_cons (ps_asg (pv 1) (pg_tupK (K := K) (n := 2) rfl rfl (pgs_cons (pg_name (i := 2) sc_needs_of.nd rfl (by first | exact Or.inl rfl | exact Or.inr rfl)) (pgs_cons (pg_name (i := 3) sc_needs_of.nd rfl (by first | exact Or.inl rfl | exact Or.inr rfl)) pgs_nil))))
   (pss_cons (ps_set (i := 4) sc_needs_of.nd rfl (by first | exact Or.inl rfl | exact Or.inr rfl) (pe_dget1 (hu1 hu64) (pv 0) (pv 2) ⟨rfl, rfl, rfl, rfl⟩))
   (pss_cons (ps_if (pt_cmpR op_isNn (pv 4) pe_non (nomark _)) (pss_one (ps_ret (pe_lst pa_nil))) pss_nil)
   (pss_one (ps_ret (pe_lc (own := [("back", 5), ("there", 6)]) rfl sc_needs_of.nd (pi_list (pe_methP0 (pe_methP (pv 4) L_Leaf__rule hr4 (atOf passL) (pa_cons (pv 3) pa_nil)) L_Rule__needs hr1 (atOf pass0))) (blkOk_by (N := ["leaves", "pair", "number", "cell", "leaf", "back", "there"]) (sc := defScope s_needs_of) (by decide +kernel)) (fun _ _ _ _ _ => (pg_tupK (K := K) (n := 2) rfl rfl (pgs_cons (pg_name (i := 5) sc_needs_of.nd rfl (by first | exact Or.inl rfl | exact Or.inr rfl)) (pgs_cons (pg_name (i := 6) sc_needs_of.nd rfl (by first | exact Or.inl rfl | exact Or.inr rfl)) pgs_nil)))) (fun _ _ _ _ _ => pts_nil) (fun _ _ _ _ _ => (pe_tup (pa_cons (pe_op op_sub (pv 2) (pv 5)) (pa_cons (pv 6) pa_nil)))))))))), ?_⟩
  unfold m_needs_of at P
  have st := Stp.refl (W := []) w
  refine h_seq (h_asg ?_)
  refine h_var rfl ?_
  have r1 : Rep K B0 v_pair (enc (⟨a_pair.1, a_pair.2⟩ : Tp2 Int Int)) := Rep.prT (a := a_pair.1) (b := a_pair.2) (r_pair.mono st.ex)
  obtain ⟨p2, xs3, rfl, hs4, hr5⟩ := Rep.st w r1
  obtain ⟨u6, u8, rfl, r7, r9⟩ := RepL.open2 hr5
  refine h_tupG hs4 rfl ?_
  refine h_gcons ?_
  refine h_gname ?_
  cases r7
  refine h_gcons ?_
  refine h_gname ?_
  cases r9
  refine h_gnil ?_
  refine h_nx ?_
  refine h_set (h_dget1E ?_)
  refine h_var rfl ?_
  refine ⟨_, rfl, m_leaves.isD, ?_⟩
  refine h_var rfl ?_
  refine h_dget1K m_leaves (fun u10 r11 => ?_)
  refine h_seq <| h_if ?_
  refine h_test ?_
  refine h_op (h_var rfl (h_c (h_isN r11 ?_)))
  refine h_bl ?_
  refine h_ite (fun c1 => ?_) (fun c1 => ?_)
  ·replace P := P.iteT c1
   refine h_ret (h_lst (h_nil ?_))
   refine h_newM w (ds := (([] : List (Int × Int))).map enc) (K := K) .nil (fun p12 H13 hn16 s14 m15 => ?_) (by show 0 ≤ sizeLine; decide)
   have n17 := st.nn hn16
   have ne18 := MuK.ne m_leaves hn16
   replace m_leaves := m_leaves.step s14 nm0
   replace r11 := r11.mono s14.ex
   replace st := st.go s14 go0
   replace w := s14.ok
   exact P.ok _ _ _ st n17 m15
  ·replace P := P.iteF c1
   refine h_next ?_
   refine h_nx ?_
   refine h_ret (h_lcE ?_)
   refine h_methE ?_
   refine h_methE ?_
   refine h_var rfl ?_
   obtain ⟨x19, hx20, P⟩ := P.some
   have rc21 := r11
   rw [hx20] at rc21
   replace rc21 : Rep K B0 u10 (enc x19) := rc21
   obtain ⟨_, _, _, _, _, hv, he, hA, hl, gom22⟩ := disp_Leaf__rule (K := K) (mg := mg) T_Full T_Still T_Woven w rc21
   refine ⟨_, _, _, _, _, hv, he, hA, hl, ?_⟩
   refine h_cons (h_var rfl (h_nil ?_))
   refine gom22 w rc21 (.int ((⟨a_pair.1, a_pair.2⟩ : Tp2 Int Int).b)) (enc ((⟨a_pair.1, a_pair.2⟩ : Tp2 Int Int).b : Int)) (Rep.int _) (P.bind.noErr.mono (fun x23 P => ?_) (fun _ z => z.elim))
   refine fun v27 B24 H25 s26 r28 => ?_
   replace m_leaves := m_leaves.step s26 nm0
   replace r11 := r11.mono s26.ex
   replace rc21 := rc21.mono s26.ex
   replace st := st.go s26 go0
   replace w := s26.ok
   obtain ⟨_, _, _, _, _, hv, he, hA, hl, gom29⟩ := disp_Rule__needs (K := K) (mg := mg) T_Plain T_Moved T_Mixed w r28
   refine ⟨_, _, _, _, _, hv, he, hA, hl, ?_⟩
   refine h_nil ?_
   refine gom29 w r28 (P.bind.mono (fun x30 P => ?_) (fun _ z => z))
   refine fun p36 B31 H32 s33 hn37 m38 => ?_
   have n39 := st.nn hn37
   have ne40 := MuK.ne m_leaves hn37
   replace m_leaves := m_leaves.step s33 nm0
   replace r11 := r11.mono s33.ex
   replace r28 := r28.mono s33.ex
   replace st := st.go s33 go0
   replace w := s33.ok
   obtain ⟨B45, e41, k42, g43, r44⟩ := Mu.keep m38
   replace st := g43 _ _ _ st w0 n39
   replace m_leaves := m_leaves.kp e41 k42 ne40
   replace r11 := r11.mono e41
   replace w := st.ok
   replace r44 : Rep K B45 (.ref p36) (enc x30) := r44
   obtain ⟨p46, xs47, hv, hb48, hr49⟩ := Rep.sqB r44
   cases hv
   refine h_lcL P (w.l hb48) hr49 (fun Dl (acc : List (Int × Int)) (a : Unit) H' => ∃ B', Stp [] B45 H32 B' H' ∧ H32 Dl = none ∧ Mu K B' H' Dl (acc.map enc) ∧ p_leaves ≠ Dl) (fun Dl hD => ⟨_, Stp.newM w hD, hD, Mu.new w hD .nil, MuK.ne m_leaves hD⟩) (fun _ _ _ _ j => ?_) ?_ ?_
   ·obtain ⟨B59, s60, hD61, m62, ne66⟩ := j
    exact s60.ok.l (s60.ex.l hb48)
   ·rintro Dl50 N51 T52 x53 v54 acc56 a57 H58 ⟨B59, s60, hD61, m62, ne66⟩ r55 hz63 kk64 kn65 P
    have wj68 := w
    have sj67 := s60
    have n69 := st.nn hD61
    replace m_leaves := m_leaves.step s60 nm0
    replace r11 := r11.mono s60.ex
    replace st := st.go s60 go0
    replace w := s60.ok
    replace r55 := r55.mono s60.ex
    obtain ⟨p70, xs71, rfl, hs72, hr73⟩ := Rep.st w r55
    obtain ⟨u74, u76, rfl, r75, r77⟩ := RepL.open2 hr73
    refine h_tupG hs72 rfl ?_
    refine h_gcons ?_
    refine h_gname ?_
    cases r75
    refine h_gcons ?_
    refine h_gname ?_
    cases r77
    refine h_gnil ?_
    refine h_lcT rfl ?_
    refine h_tup ?_
    refine h_cons (h_op (h_var rfl (h_var rfl (h_I0 (h_cons (h_var rfl (h_nil ?_)))))))
    refine h_newP w (K := K) (a := ((⟨a_pair.1, a_pair.2⟩ : Tp2 Int Int).a - x53.a)) (b := x53.b) (fun p78 B79 H80 s81 r82 => ?_)
    replace m_leaves := m_leaves.step s81 nm0
    replace r11 := r11.mono s81.ex
    replace m62 := m62.step s81 nm0
    replace st := st.go s81 go0
    replace sj67 := sj67.go s81 go0
    replace w := s81.ok
    refine h_app (b := ((((⟨a_pair.1, a_pair.2⟩ : Tp2 Int Int).a - x53.a), x53.b) : Int × Int)) w m62 r82 hz63 (fun H83 s84 m62 => ?_)
    replace m_leaves := m_leaves.step s84 (nm1 ne66)
    replace r11 := r11.mono s84.ex
    replace st := st.go s84 (go1 (.inr n69))
    replace sj67 := sj67.go s84 (go1 (.inr hD61))
    replace w := s84.ok
    exact kk64 ((((⟨a_pair.1, a_pair.2⟩ : Tp2 Int Int).a - x53.a), x53.b) : Int × Int) () _ ⟨_, sj67, hD61, m62, ne66⟩ P.ok
   ·rintro Dl50 acc56 a57 H58 ⟨B59, s60, hD61, m62, ne66⟩ P
    have n85 := st.nn hD61
    replace m_leaves := m_leaves.step s60 nm0
    replace r11 := r11.mono s60.ex
    replace st := st.go s60 go0
    replace w := s60.ok
    replace P := P.un2
    exact P.ok _ _ _ st n85 m62
theorem ok_hung {f : Addr} {fd : FuncData}  (F : Fun K "hung" "hung" s_hung f fd) (X_needs_of : Cal Pr wo K mg base "needs_of" ["leaves", "pair"] CX0 5 (sp_needs_of K)) (bI_list : mg "list" = none) : FnOk Pr wo K mg base CX0 6 f fd ["leaves", "pairs"] (sp_hung K) := by
 obtain ⟨_, _, g_needs_of, k_needs_of, b_needs_of, G_needs_of⟩ := X_needs_of
 refine F.ok sc_hung (fun vs H Q E h => ?_) (fun cdv A outer s H0 vs Q E hr h => ?_)
 ·obtain ⟨_, _, _, _, _, _, rfl, _⟩ := h; rfl
 ·obtain ⟨B0, p_leaves, a_leaves, v_pairs, a_pairs, w, rfl, m_leaves, r_pairs, P⟩ := h
  have hu64 := hu64_of hr
  have hr5 : Room 5 _ := hr.mono (by decide)
  refine ⟨_, (pss_cons (ps_set (i := 2) sc_hung.nd rfl (.inl rfl) pe_dnewT)
   (pss_cons (ps_set (i := 3) sc_hung.nd rfl (.inl rfl) (pe_callTy (r := rListY K) cr_list (by rfl) bI_list Y.boot_list (pa_cons (pv 1) pa_nil)))
   (pss_cons (ps_while PassesOwn.never (pt_cmpR (r := rNeD K) (op_neD hu64) (pv 3) (pe_lst pa_nil) (nomark _)) (pss_cons (ps_set (i := 4) sc_hung.nd rfl (.inl rfl) (pe_bm0 PySem.F.plainAttrs_list PySem.F.slot_list_pop PySem.F.type_list_pop mt_pop (pv 3)))
   (pss_one (ps_if (pt_cmpR (r := rDIn true) (op_dnin hu64) (pv 4) (pv 2) rfl) (pss_cons (ps_dput (hu1 hu64) (pv 2) (pv 4) pe_bl rfl)
   (pss_one (ps_expr (pe_bm PySem.F.plainAttrs_list PySem.F.slot_list_extend PySem.F.type_list_extend mt_extend (pv 3) (pa_cons (pe_call G_needs_of hr5 rfl g_needs_of k_needs_of b_needs_of .nil pass0 (pa_cons (pv 0) (pa_cons (pv 4) pa_nil))) pa_nil))))) pss_nil))))
   (pss_one (ps_ret (pv 2)))))), ?_⟩
  unfold m_hung at P
  have st := Stp.refl (W := []) w
  refine h_set ?_
  refine h_dnewT w (K := K) (fun p1 H2 hn5 s3 m4 => ?_)
  have n6 := st.nn hn5
  have ne7 := MuK.ne m_leaves hn5
  replace m_leaves := m_leaves.step s3 nm0
  replace st := st.go s3 go0
  replace w := s3.ok
  replace m4 : MuT K B0 H2 p1 (encA ([] : (List ((Int × Int) × Bool)))) := m4
  refine h_set (h_cb (h_cons (h_var rfl (h_nil ?_))))
  obtain ⟨p8, xs9, rfl, hs10, hr11⟩ := Bor.sq (r_pairs.step st)
  refine h_listL hs10 ?_
  refine h_nwM w (ds := (a_pairs).map enc) (K := K) hr11 (fun p12 H13 hn16 s14 m15 => ?_) 
  have n17 := st.nn hn16
  have ne18 := MuK.ne m_leaves hn16
  have ne19 := MuT.ne m4 hn16
  replace m_leaves := m_leaves.step s14 nm0
  replace m4 := m4.step s14 nm0
  replace st := st.go s14 go0
  replace w := s14.ok
  refine h_seq ?_
  have wj21 := w
  have sj20 := Stp.refl (W := [p12, p1]) w
  refine h_while P (fun (a : (List (Int × Int)) × (List ((Int × Int) × Bool))) σ' H' => ∃ (B' : Hp) (o_pair : Option V), Stp [p12, p1] B0 H13 B' H' ∧ σ' = [some ((.ref p_leaves)), some ((.ref p8)), some ((.ref p1)), some ((.ref p12)), o_pair] ∧ Mu K B' H' p12 (a.1.map enc) ∧ MuT K B' H' p1 (encA a.2)) ⟨_, _, sj20, rfl, m15, m4⟩ ?_ ?_
  ·rintro N22 C23 T24 a29 _ H31 ⟨B30, o33, s32, rfl, m15, m4⟩ kn25 kk26 kr27 kb28 P
   replace m_leaves := m_leaves.step s32 (nm2 ne18 ne7)
   replace st := st.go s32 (go2 (.inr n17) (.inr n6))
   replace w := s32.ok
   have sj20 := s32
   refine h_test ?_
   refine h_op (h_var rfl (h_lst (h_nil ?_)))
   refine h_newL w (ds := (([] : List D)).map enc) (K := K) .nil (fun p34 B35 H36 s37 r38 => ?_) (by show 0 ≤ sizeLine; decide)
   replace m_leaves := m_leaves.step s37 nm0
   replace m4 := m4.step s37 nm0
   replace m15 := m15.step s37 nm0
   replace st := st.go s37 go0
   replace sj20 := sj20.go s37 go0
   replace w := s37.ok
   replace r38 : Rep K B35 (.ref p34) (enc ([] : List D)) := r38
   obtain ⟨gd, P⟩ := P.guard
   obtain ⟨xs40, hv, hs41, hr42⟩ := Mu.sq m15
   refine h_neC (d := (enc a29.1)) (e := (enc ([] : List D))) (SqL.cp w hs41 hr42) (Rep.cp w r38) gd ?_
   refine h_bl ?_
   refine h_ite (fun c1 => ?_) (fun c1 => ?_)
   ·replace P := P.iteT c1
    refine ⟨N22, kn25, ?_⟩
    refine h_set (h_bm0 ?_)
    refine h_var rfl (h_bmL0 m15 ?_)
    obtain ⟨y47, hx46, P⟩ := P.popE
    refine h_popE w m15 hx46 (fun u48 H43 s44 m15 r49 => ?_)
    replace m_leaves := m_leaves.step s44 (nm1 ne18)
    replace m4 := m4.step s44 (nm1 ne19)
    replace st := st.go s44 (go1 (.inr n17))
    replace sj20 := sj20.go s44 (go1 (.inl (by simp)))
    replace w := s44.ok
    generalize hl : (y47, List.dropLast a29.1) = x45 at P
    obtain rfl : y47 = x45.1 := by rw [← hl]
    have hl2 : List.dropLast a29.1 = x45.2 := by rw [← hl]
    rw [hl2] at m15
    refine h_if ?_
    refine h_test ?_
    refine h_op (h_var rfl (h_var rfl (h_dinT w m4 r49 ?_)))
    refine h_bl ?_
    refine h_ite (fun c1 => ?_) (fun c1 => ?_)
    ·replace P := P.iteT c1
     refine h_seq (h_dputE ?_)
     refine h_c (h_var rfl (h_var rfl ?_))
     obtain ⟨gd, P⟩ := P.guard
     refine h_dputT (x := (true : Bool)) w m4 (Rep.bl _) r49 gd (fun H50 s51 m4 => ?_)
     replace m_leaves := m_leaves.step s51 (nm1 ne7)
     replace m15 := m15.step s51 (nm1 ne19.symm)
     replace r49 := r49.mono s51.ex
     replace st := st.go s51 (go1 (.inr n6))
     replace sj20 := sj20.go s51 (go1 (.inl (by simp)))
     replace w := s51.ok
     refine h_nx ?_
     refine h_drop ?_
     refine h_bm ?_
     refine h_var rfl (h_bmL m15 ?_)
     refine h_cons (h_call (h_cons (h_var rfl (h_cons (h_var rfl (h_nil ?_))))))
     refine ⟨B35, p_leaves, a_leaves, u48, x45.1, w, rfl, m_leaves, r49, (P.bind).mono (fun x52 P => ?_) (fun _ z => z)⟩
     refine fun p58 B53 H54 s55 hn59 m60 => ?_
     have n62 := st.nn hn59
     have n63 := sj20.nn hn59
     have ne64 := MuK.ne m_leaves hn59
     have ne65 := MuT.ne m4 hn59
     have ne66 := Mu.ne m15 hn59
     replace m_leaves := m_leaves.step s55 nm0
     replace m4 := m4.step s55 nm0
     replace m15 := m15.step s55 nm0
     replace r49 := r49.mono s55.ex
     replace st := st.go s55 go0
     replace sj20 := sj20.go s55 go0
     replace w := s55.ok
     refine h_nil ?_
     obtain ⟨gd, P⟩ := P.guard
     refine h_extend w m15 m60 gd (fun H67 s68 m15 => ?_)
     replace m_leaves := m_leaves.step s68 (nm1 ne18)
     replace m4 := m4.step s68 (nm1 ne19)
     replace r49 := r49.mono s68.ex
     replace st := st.go s68 (go1 (.inr n17))
     replace sj20 := sj20.go s68 (go1 (.inl (by simp)))
     replace w := s68.ok
     refine h_nx ?_
     exact kk26 ((x45.2 ++ x52), (putA a29.2 x45.1 (true : Bool))) _ _ ⟨_, _, sj20, rfl, m15, m4⟩ P.ok
    ·replace P := P.iteF c1
     refine h_next ?_
     refine h_nx ?_
     exact kk26 (x45.2, a29.2) _ _ ⟨_, _, sj20, rfl, m15, m4⟩ P.ok
   ·replace P := P.iteF c1
    exact kb28 (a29.1, a29.2) _ _ ⟨_, _, sj20, rfl, m15, m4⟩ P.ok
  ·rintro a69 _ H71 ⟨B70, o73, s72, rfl, m15, m4⟩ P
   replace m_leaves := m_leaves.step s72 (nm2 ne18 ne7)
   replace st := st.go s72 (go2 (.inr n17) (.inr n6))
   replace w := s72.ok
   refine h_nx ?_
   refine h_ret (h_var rfl ?_)
   exact P.ok _ _ _ st n6 m4
theorem ok_Plain__value {f : Addr} {fd : FuncData}  (F : Fun K "value" "Plain.value" s_Plain__value f fd) {C_Plain : Addr} (T_Plain : KI K mg "Plain" C_Plain) (n_Plain_worth : NoAttr K C_Plain "worth") : FnOk Pr wo K mg base CX0 1 f fd ["self", "found"] (sp_Plain__value K) := by
 refine F.ok sc_Plain__value (fun vs H Q E h => ?_) (fun cdv A outer s H0 vs Q E hr h => ?_)
 ·obtain ⟨_, _, _, _, _, _, rfl, _⟩ := h; rfl
 ·obtain ⟨B0, v_self, s_worth, v_found, a_found, w, rfl, r_self, r_found, P⟩ := h
  refine ⟨_, (pss_one (ps_ret (pe_fldK (K := K) rfl (pv 0) (by rfl)))), ?_⟩
  unfold m_Plain__value at P
  have st := Stp.refl (W := []) w
  refine h_ret (h_fldE (h_var rfl ?_))
  refine h_fld w (r_self.mono st.ex) T_Plain.toKC n_Plain_worth (d := enc (s_worth : Int)) lk0 (fun u1 r2 => ?_)
  cases r2
  exact P.ok _ _ _ st (Rep.int _)
theorem ok_Moved__value {f : Addr} {fd : FuncData}  (F : Fun K "value" "Moved.value" s_Moved__value f fd) {C_Moved : Addr} (T_Moved : KI K mg "Moved" C_Moved) (n_Moved_add : NoAttr K C_Moved "add") : FnOk Pr wo K mg base CX0 1 f fd ["self", "found"] (sp_Moved__value K) := by
 refine F.ok sc_Moved__value (fun vs H Q E h => ?_) (fun cdv A outer s H0 vs Q E hr h => ?_)
 ·obtain ⟨_, _, _, _, _, _, _, _, rfl, _⟩ := h; rfl
 ·obtain ⟨B0, v_self, s_back, s_cell, s_add, v_found, a_found, w, rfl, r_self, r_found, P⟩ := h
  have hu := hu_of hr
  refine ⟨_, (pss_one (ps_ret (pe_op (r := rAnd255) op_and255 (pe_op op_add (pe_ix (r := rIxL K) ix_list (pv 1) pe_int (fun _ _ => rfl)) (pe_fldK (K := K) rfl (pv 0) (by rfl))) pe_int))), ?_⟩
  unfold m_Moved__value at P
  have st := Stp.refl (W := []) w
  refine h_ret (h_op (h_op (h_op (h_var rfl (h_c ?_)))))
  obtain ⟨p1, xs2, rfl, hs3, hr4⟩ := Bor.sq (r_found.step st)
  obtain ⟨x5, hx6, P⟩ := P.ix
  obtain ⟨u7, hu, r8⟩ := RepL.atE hr4 hx6
  refine h_ixL hs3 hu ?_
  cases r8
  refine h_fldE (h_var rfl ?_)
  refine h_fld w (r_self.mono st.ex) T_Moved.toKC n_Moved_add (d := enc (s_add : Int)) (lkS (by decide +kernel) (lkS (by decide +kernel) lk0)) (fun u9 r10 => ?_)
  cases r10
  refine h_I0 (h_c (h_and255 ?_))
  exact P.ok _ _ _ st (Rep.int _)
theorem ok_Mixed__value {f : Addr} {fd : FuncData}  (F : Fun K "value" "Mixed.value" s_Mixed__value f fd) (bI_sum : mg "sum" = none) : FnOk Pr wo K mg base CX0 1 f fd ["self", "found"] (sp_Mixed__value K) := by
 refine F.ok sc_Mixed__value (fun vs H Q E h => ?_) (fun cdv A outer s H0 vs Q E hr h => ?_)
 ·obtain ⟨_, _, _, _, _, _, _, _, _, rfl, _⟩ := h; rfl
 ·obtain ⟨B0, v_self, s_back, s_cell, s_other_back, s_other_cell, v_found, a_found, w, rfl, r_self, r_found, P⟩ := h
  refine ⟨_, (pss_one (ps_ret (pe_op op_fdiv (pe_callB (r := rSum K) (cr_sum rfl) (by rfl) bI_sum PyProof.Rows.boot_sum (pa_cons (pv 1) pa_nil)) pe_int))), ?_⟩
  unfold m_Mixed__value at P
  have st := Stp.refl (W := []) w
  refine h_ret (h_op (h_cb (h_cons (h_var rfl (h_nil ?_)))))
  obtain ⟨p1, xs2, rfl, hs3, hr4⟩ := Bor.sq (r_found.step st)
  refine h_sum hs3 hr4 ?_
  refine h_c (h_I ⟨by decide +kernel, by decide +kernel⟩ ?_)
  exact P.ok _ _ _ st (Rep.int _)
theorem ok_values_of {f : Addr} {fd : FuncData}  (F : Fun K "values_of" "values_of" s_values_of f fd) {C_Full : Addr} (T_Full : KI K mg "Full" C_Full) {C_Still : Addr} (T_Still : KI K mg "Still" C_Still) {C_Woven : Addr} (T_Woven : KI K mg "Woven" C_Woven) {C_Plain : Addr} (T_Plain : KI K mg "Plain" C_Plain) {C_Moved : Addr} (T_Moved : KI K mg "Moved" C_Moved) {C_Mixed : Addr} (T_Mixed : KI K mg "Mixed" C_Mixed) (L_Leaf__rule : ∀ C sp, A_Leaf__rule K mg C_Full C_Still C_Woven C sp → MAlt Pr wo K mg base (L2.CX Pr wo) 4 "rule" C sp) (L_Rule__value : ∀ C sp, A_Rule__value K mg C_Plain C_Moved C_Mixed C sp → MAlt Pr wo K mg base CX0 1 "value" C sp) (X_needs_of : Cal Pr wo K mg base "needs_of" ["leaves", "pair"] CX0 5 (sp_needs_of K)) (bI_sorted : mg "sorted" = none) (bI_list : mg "list" = none) : FnOk Pr wo K mg base CX0 6 f fd ["leaves", "pairs"] (sp_values_of K) := by
 obtain ⟨_, _, g_needs_of, k_needs_of, b_needs_of, G_needs_of⟩ := X_needs_of
 refine F.ok sc_values_of (fun vs H Q E h => ?_) (fun cdv A outer s H0 vs Q E hr h => ?_)
 ·obtain ⟨_, _, _, _, _, _, rfl, _⟩ := h; rfl
 ·obtain ⟨B0, p_leaves, a_leaves, p_pairs, a_pairs, w, rfl, m_leaves, m_pairs, P⟩ := h
  have w0 := w
  have hu64 := hu64_of hr
  have hr1 : Room 1 _ := hr.mono (by decide)
  have hr4 : Room 4 _ := hr.mono (by decide)
  have hr5 : Room 5 _ := hr.mono (by decide)
  refine ⟨_, (pss_cons (ps_set (i := 2) sc_values_of.nd rfl (by first | exact Or.inl rfl | exact Or.inr rfl) pe_dnewT)
   (pss_cons (ps_for PassesOwn.never rfl (pi_list (pe_callB (r := rSortedPO K) cr_sortedPO (by rfl) bI_sorted PyProof.Rows.boot_sorted (pa_cons (pe_callTy (r := rListT) (cr_listT rfl) (by rfl) bI_list Y.boot_list (pa_cons (pv 1) pa_nil)) pa_nil))) (pg_tupK (K := K) (n := 2) rfl rfl (pgs_cons (pg_name (i := 3) sc_values_of.nd rfl (.inl rfl)) (pgs_cons (pg_name (i := 4) sc_values_of.nd rfl (.inl rfl)) pgs_nil))) (pss_cons (ps_set (i := 5) sc_values_of.nd rfl (by first | exact Or.inl rfl | exact Or.inr rfl) (pe_call G_needs_of hr5 rfl g_needs_of k_needs_of b_needs_of .nil pass0 (pa_cons (pv 0) (pa_cons (pe_tup (pa_cons (pv 3) (pa_cons (pv 4) pa_nil))) pa_nil))))
   (pss_one (ps_dput (hu1 hu64) (pv 2) (pe_tup (pa_cons (pv 3) (pa_cons (pv 4) pa_nil))) (pe_methP (pe_methP (pe_dget (hu1 hu64) (pv 0) (pv 3) (fun _ _ => rfl)) L_Leaf__rule hr4 (atOf passL) (pa_cons (pv 4) pa_nil)) L_Rule__value hr1 (atOf pass0) (pa_cons (pe_lc (own := [("pair", 6)]) rfl sc_values_of.nd (pi_list (pv 5)) (blkOk_by (N := ["leaves", "pairs", "found", "number", "cell", "needs", "pair"]) (sc := defScope s_values_of) (by decide +kernel)) (fun _ _ _ _ _ => (pg_name (i := 6) sc_values_of.nd rfl (by first | exact Or.inl rfl | exact Or.inr rfl))) (fun _ _ _ _ _ => pts_nil) (fun _ _ _ _ _ => (pe_dget (hu1 hu64) (pv 2) (pv 6) (fun _ _ => rfl)))) pa_nil)) rfl))))
   (pss_one (ps_ret (pv 2))))), ?_⟩
  unfold m_values_of at P
  have st := Stp.refl (W := []) w
  have ned1 := (neKT m_leaves m_pairs)
  refine h_set ?_
  refine h_dnewT w (K := K) (fun p2 H3 hn6 s4 m5 => ?_)
  have n7 := st.nn hn6
  have ne8 := MuK.ne m_leaves hn6
  have ne9 := MuT.ne m_pairs hn6
  replace m_leaves := m_leaves.step s4 nm0
  replace m_pairs := m_pairs.step s4 nm0
  replace st := st.go s4 go0
  replace w := s4.ok
  replace m5 : MuT K B0 H3 p2 (encA ([] : (List ((Int × Int) × Int)))) := m5
  refine h_seq (h_forE ?_)
  refine h_cb (h_cons (h_cb (h_cons (h_var rfl (h_nil ?_)))))
  refine h_listDT (K := K) w m_pairs (fun p11 B10 H12 hn15 s13 m14 => ?_)
  have n16 := st.nn hn15
  have ne17 := MuK.ne m_leaves hn15
  have ne18 := MuT.ne m_pairs hn15
  have ne19 := MuT.ne m5 hn15
  replace m_leaves := m_leaves.step s13 nm0
  replace m_pairs := m_pairs.step s13 nm0
  replace m5 := m5.step s13 nm0
  replace st := st.go s13 go0
  replace w := s13.ok
  replace m14 : Mu K B10 H12 p11 (((a_pairs.map (·.1)) : (List (Int × Int))).map enc) := m14
  refine h_nil ?_
  obtain ⟨xs21, hv, hs22, hr23⟩ := Mu.sq m14
  refine h_sortP (K := K) w hs22 hr23 (fun p24 H25 hn28 s26 m27 => ?_)
  have n29 := st.nn hn28
  have ne30 := MuK.ne m_leaves hn28
  have ne31 := MuT.ne m_pairs hn28
  have ne32 := MuT.ne m5 hn28
  have ne33 := Mu.ne m14 hn28
  replace m_leaves := m_leaves.step s26 nm0
  replace m_pairs := m_pairs.step s26 nm0
  replace m5 := m5.step s26 nm0
  replace m14 := m14.step s26 nm0
  replace st := st.go s26 go0
  replace w := s26.ok
  replace m27 : Mu K B10 H25 p24 (((sortP (a_pairs.map (·.1))) : (List (Int × Int))).map enc) := m27
  obtain ⟨B38, e34, k35, g36, r37⟩ := Mu.keep m27
  replace st := g36 _ _ _ st w0 n29
  replace m_leaves := m_leaves.kp e34 k35 ne30
  replace m_pairs := m_pairs.kp e34 k35 ne31
  replace m5 := m5.kp e34 k35 ne32
  replace w := st.ok
  replace r37 : Rep K B38 (.ref p24) (enc (sortP (a_pairs.map (·.1)))) := r37
  obtain ⟨p39, xs40, hv, hb41, hr42⟩ := Rep.sqB r37
  cases hv
  have wj44 := w
  have sj43 := Stp.refl (W := [p2]) w
  refine h_forL P (w.l hb41) hr42 (fun (a : (List ((Int × Int) × Int))) σ' H' => ∃ (B' : Hp) (o_needs : Option V) (o_pair : Option V) (o_number : Option V) (o_cell : Option V), Stp [p2] B38 H25 B' H' ∧ σ' = [some ((.ref p_leaves)), some ((.ref p_pairs)), some ((.ref p2)), o_number, o_cell, o_needs, o_pair] ∧ MuT K B' H' p2 (encA a)) ⟨_, _, _, _, _, sj43, rfl, m5⟩ (fun _ _ _ j => ?_) ?_ ?_
  ·obtain ⟨B54, o57, o58, o59, o60, s56, rfl, m5⟩ := j
   exact s56.ok.l (s56.ex.l hb41)
  ·rintro N45 T46 x51 v52 a50 _ H55 ⟨B54, o57, o58, o59, o60, s56, rfl, m5⟩ r53 kk47 kr48 kb49 P
   replace m_leaves := m_leaves.step s56 (nm1 ne8)
   replace m_pairs := m_pairs.step s56 (nm1 ne9)
   replace st := st.go s56 (go1 (.inr n7))
   replace w := s56.ok
   have sj43 := s56
   replace r53 := r53.mono sj43.ex
   have r61 : Rep K B54 v52 (enc (⟨x51.1, x51.2⟩ : Tp2 Int Int)) := Rep.prT (a := x51.1) (b := x51.2) r53
   obtain ⟨p62, xs63, rfl, hs64, hr65⟩ := Rep.st w r61
   obtain ⟨u66, u68, rfl, r67, r69⟩ := RepL.open2 hr65
   refine h_tupG hs64 rfl ?_
   refine h_gcons ?_
   refine h_gname ?_
   cases r67
   refine h_gcons ?_
   refine h_gname ?_
   cases r69
   refine h_gnil ?_
   refine h_set (h_call (h_cons (h_var rfl (h_cons (h_tup ?_)))))
   refine h_cons (h_var rfl (h_cons (h_var rfl (h_nil ?_))))
   refine h_newP w (K := K) (a := (⟨x51.1, x51.2⟩ : Tp2 Int Int).a) (b := (⟨x51.1, x51.2⟩ : Tp2 Int Int).b) (fun p70 B71 H72 s73 r74 => ?_)
   replace m_leaves := m_leaves.step s73 nm0
   replace m_pairs := m_pairs.step s73 nm0
   replace m5 := m5.step s73 nm0
   replace st := st.go s73 go0
   replace sj43 := sj43.go s73 go0
   replace w := s73.ok
   refine h_nil ?_
   refine ⟨B71, p_leaves, a_leaves, (.ref p70), (((⟨x51.1, x51.2⟩ : Tp2 Int Int).a, (⟨x51.1, x51.2⟩ : Tp2 Int Int).b) : Int × Int), w, rfl, m_leaves, r74, (P.bind).mono (fun x75 P => ?_) (fun _ z => z)⟩
   refine fun p81 B76 H77 s78 hn82 m83 => ?_
   have n85 := st.nn hn82
   have n86 := sj43.nn hn82
   have ne87 := MuK.ne m_leaves hn82
   have ne88 := MuT.ne m_pairs hn82
   have ne89 := MuT.ne m5 hn82
   replace m_leaves := m_leaves.step s78 nm0
   replace m_pairs := m_pairs.step s78 nm0
   replace m5 := m5.step s78 nm0
   replace r74 := r74.mono s78.ex
   replace st := st.go s78 go0
   replace sj43 := sj43.go s78 go0
   replace w := s78.ok
   obtain ⟨B94, e90, k91, g92, r93⟩ := Mu.keep m83
   replace st := g92 _ _ _ st w0 n85
   replace sj43 := g92 _ _ _ sj43 wj44 n86
   replace m_leaves := m_leaves.kp e90 k91 ne87
   replace m_pairs := m_pairs.kp e90 k91 ne88
   replace m5 := m5.kp e90 k91 ne89
   replace w := st.ok
   replace r93 : Rep K B94 (.ref p81) (enc x75) := r93
   refine h_dputE ?_
   refine h_methE ?_
   refine h_methE ?_
   refine h_dgetE ?_
   refine h_var rfl (h_var rfl ?_)
   obtain ⟨x95, hx96, P⟩ := P.some
   refine h_dgetK m_leaves hx96 (fun u97 r98 => ?_)
   obtain ⟨_, _, _, _, _, hv, he, hA, hl, gom99⟩ := disp_Leaf__rule (K := K) (mg := mg) T_Full T_Still T_Woven w r98
   refine ⟨_, _, _, _, _, hv, he, hA, hl, ?_⟩
   refine h_cons (h_var rfl (h_nil ?_))
   refine gom99 w r98 (.int ((⟨x51.1, x51.2⟩ : Tp2 Int Int).b)) (enc ((⟨x51.1, x51.2⟩ : Tp2 Int Int).b : Int)) (Rep.int _) (P.bind.noErr.mono (fun x100 P => ?_) (fun _ z => z.elim))
   refine fun v104 B101 H102 s103 r105 => ?_
   replace m_leaves := m_leaves.step s103 nm0
   replace m_pairs := m_pairs.step s103 nm0
   replace m5 := m5.step s103 nm0
   replace r93 := r93.mono s103.ex
   replace r98 := r98.mono s103.ex
   replace st := st.go s103 go0
   replace sj43 := sj43.go s103 go0
   replace w := s103.ok
   obtain ⟨_, _, _, _, _, hv, he, hA, hl, gom106⟩ := disp_Rule__value (K := K) (mg := mg) T_Plain T_Moved T_Mixed w r105
   refine ⟨_, _, _, _, _, hv, he, hA, hl, ?_⟩
   refine h_cons (h_lcE ?_)
   refine h_var rfl ?_
   obtain ⟨p107, xs108, hv, hb109, hr110⟩ := Rep.sqB r93
   cases hv
   refine h_lcL P (w.l hb109) hr110 (fun Dl (acc : List Int) (a : Unit) H' => ∃ B', Stp [] B101 H102 B' H' ∧ H102 Dl = none ∧ Mu K B' H' Dl (acc.map enc) ∧ p_leaves ≠ Dl ∧ p_pairs ≠ Dl ∧ p2 ≠ Dl) (fun Dl hD => ⟨_, Stp.newM w hD, hD, Mu.new w hD .nil, MuK.ne m_leaves hD, MuT.ne m_pairs hD, MuT.ne m5 hD⟩) (fun _ _ _ _ j => ?_) ?_ ?_
   ·obtain ⟨B120, s121, hD122, m123, ne127, ne128, ne129⟩ := j
    exact s121.ok.l (s121.ex.l hb109)
   ·rintro Dl111 N112 T113 x114 v115 acc117 a118 H119 ⟨B120, s121, hD122, m123, ne127, ne128, ne129⟩ r116 hz124 kk125 kn126 P
    have wj131 := w
    have sj130 := s121
    have n132 := st.nn hD122
    have n133 := sj43.nn hD122
    replace m_leaves := m_leaves.step s121 nm0
    replace m_pairs := m_pairs.step s121 nm0
    replace m5 := m5.step s121 nm0
    replace r93 := r93.mono s121.ex
    replace r105 := r105.mono s121.ex
    replace st := st.go s121 go0
    replace sj43 := sj43.go s121 go0
    replace w := s121.ok
    replace r116 := r116.mono s121.ex
    refine h_gname ?_
    refine h_lcT rfl ?_
    refine h_dgetE ?_
    refine h_var rfl (h_var rfl ?_)
    obtain ⟨x134, hx135, P⟩ := P.some
    refine h_dgetT w m5 r116 hx135 (fun u136 r137 => ?_)
    cases r137
    refine h_app (b := x134) w m123 (Rep.int _) hz124 (fun H138 s139 m123 => ?_)
    replace m_leaves := m_leaves.step s139 (nm1 ne127)
    replace m_pairs := m_pairs.step s139 (nm1 ne128)
    replace m5 := m5.step s139 (nm1 ne129)
    replace r93 := r93.mono s139.ex
    replace r116 := r116.mono s139.ex
    replace r105 := r105.mono s139.ex
    replace st := st.go s139 (go1 (.inr n132))
    replace sj43 := sj43.go s139 (go1 (.inr n133))
    replace sj130 := sj130.go s139 (go1 (.inr hD122))
    replace w := s139.ok
    exact kk125 x134 () _ ⟨_, sj130, hD122, m123, ne127, ne128, ne129⟩ P.ok
   ·rintro Dl111 acc117 a118 H119 ⟨B120, s121, hD122, m123, ne127, ne128, ne129⟩ P
    have n140 := st.nn hD122
    have n141 := sj43.nn hD122
    replace m_leaves := m_leaves.step s121 nm0
    replace m_pairs := m_pairs.step s121 nm0
    replace m5 := m5.step s121 nm0
    replace r93 := r93.mono s121.ex
    replace r105 := r105.mono s121.ex
    replace st := st.go s121 go0
    replace sj43 := sj43.go s121 go0
    replace w := s121.ok
    replace P := P.un2
    obtain ⟨B146, e142, k143, g144, r145⟩ := Mu.keep m123
    replace st := g144 _ _ _ st w0 n140
    replace sj43 := g144 _ _ _ sj43 wj44 n141
    replace m_leaves := m_leaves.kp e142 k143 ne127
    replace m_pairs := m_pairs.kp e142 k143 ne128
    replace m5 := m5.kp e142 k143 ne129
    replace r93 := r93.mono e142
    replace r105 := r105.mono e142
    replace w := st.ok
    replace r145 : Rep K B146 (.ref Dl111) (enc acc117) := r145
    refine h_nil ?_
    refine gom106 w r105 (.ref Dl111) acc117 (Rep.bor0 w r145) (P.bind.mono (fun x147 P => ?_) (fun _ z => z))
    refine fun v151 B148 H149 s150 r152 => ?_
    replace m_leaves := m_leaves.step s150 nm0
    replace m_pairs := m_pairs.step s150 nm0
    replace m5 := m5.step s150 nm0
    replace r93 := r93.mono s150.ex
    replace r145 := r145.mono s150.ex
    replace r105 := r105.mono s150.ex
    replace st := st.go s150 go0
    replace sj43 := sj43.go s150 go0
    replace w := s150.ok
    cases r152
    refine h_var rfl (h_tup ?_)
    refine h_cons (h_var rfl (h_cons (h_var rfl (h_nil ?_))))
    refine h_newP w (K := K) (a := (⟨x51.1, x51.2⟩ : Tp2 Int Int).a) (b := (⟨x51.1, x51.2⟩ : Tp2 Int Int).b) (fun p153 B154 H155 s156 r157 => ?_)
    replace m_leaves := m_leaves.step s156 nm0
    replace m_pairs := m_pairs.step s156 nm0
    replace m5 := m5.step s156 nm0
    replace r93 := r93.mono s156.ex
    replace st := st.go s156 go0
    replace sj43 := sj43.go s156 go0
    replace w := s156.ok
    obtain ⟨gd, P⟩ := P.guard
    refine h_dputT (x := (x147 : Int)) w m5 (Rep.int _) r157 gd (fun H158 s159 m5 => ?_)
    replace m_leaves := m_leaves.step s159 (nm1 ne8)
    replace m_pairs := m_pairs.step s159 (nm1 ne9)
    replace r93 := r93.mono s159.ex
    replace st := st.go s159 (go1 (.inr n7))
    replace sj43 := sj43.go s159 (go1 (.inl (by simp)))
    replace w := s159.ok
    refine h_nx ?_
    exact kk47 (putA a50 (((⟨x51.1, x51.2⟩ : Tp2 Int Int).a, (⟨x51.1, x51.2⟩ : Tp2 Int Int).b) : Int × Int) (x147 : Int)) _ _ ⟨_, _, _, _, _, sj43, rfl, m5⟩ P.ok
  ·rintro a160 _ H162 ⟨B161, o164, o165, o166, o167, s163, rfl, m5⟩ P
   replace m_leaves := m_leaves.step s163 (nm1 ne8)
   replace m_pairs := m_pairs.step s163 (nm1 ne9)
   replace st := st.go s163 (go1 (.inr n7))
   replace w := s163.ok
   refine h_nx ?_
   refine h_ret (h_var rfl ?_)
   exact P.ok _ _ _ st n7 m5
theorem ok_all_came {f : Addr} {fd : FuncData}  (F : Fun K "all_came" "all_came" s_all_came f fd) (bI_all : mg "all" = none) : FnOk Pr wo K mg base CX0 1 f fd ["leaves", "pairs"] (sp_all_came K) := by
 refine F.ok sc_all_came (fun vs H Q E h => ?_) (fun cdv A outer s H0 vs Q E hr h => ?_)
 ·obtain ⟨_, _, _, _, _, _, rfl, _⟩ := h; rfl
 ·obtain ⟨B0, p_leaves, a_leaves, p_pairs, a_pairs, w, rfl, m_leaves, m_pairs, P⟩ := h
  have w0 := w
  have hu64 := hu64_of hr
  refine ⟨_, (pss_one (ps_ret (pe_callB (r := rAll K) (cr_all rfl) (by rfl) bI_all PyProof.Rows.boot_all (pa_cons (pe_lock (pe_lc (own := [("number", 2), ("cell", 3)]) rfl sc_all_came.nd (pi_keys (pv 1)) (blkOk_by (N := ["leaves", "pairs", "number", "cell"]) (sc := defScope s_all_came) (by decide +kernel)) (fun _ _ _ _ _ => (pg_tupK (K := K) (n := 2) rfl rfl (pgs_cons (pg_name (i := 2) sc_all_came.nd rfl (by first | exact Or.inl rfl | exact Or.inr rfl)) (pgs_cons (pg_name (i := 3) sc_all_came.nd rfl (by first | exact Or.inl rfl | exact Or.inr rfl)) pgs_nil)))) (fun _ _ _ _ _ => pts_nil) (fun _ _ _ _ _ => (pe_cmpR (r := rDIn false) (op_din hu64) (pv 2) (pv 0) rfl)))) pa_nil)))), ?_⟩
  unfold m_all_came at P
  have st := Stp.refl (W := [p_pairs]) w
  have ned1 := (neKT m_leaves m_pairs)
  refine h_ret (h_cb (h_cons ?_))
  refine h_lockT w m_pairs (fun od2 kv3 H4 s5 lk6 => ?_)
  replace m_leaves := m_leaves.step s5 (nm1 ned1)
  replace st := st.go s5 (go1 (.inl (by simp)))
  replace w := s5.ok
  refine h_lcKE ?_
  refine h_var rfl (h_lcKP P lk6 (fun Dl (acc : List Bool) (a : Unit) H' => ∃ B', Stp [] B0 H4 B' H' ∧ H4 Dl = none ∧ Mu K B' H' Dl (acc.map enc) ∧ p_leaves ≠ Dl ∧ p_pairs ≠ Dl) (fun Dl hD => ⟨_, Stp.newM w hD, hD, Mu.new w hD .nil, MuK.ne m_leaves hD, LkT.ne lk6 hD⟩) (fun _ _ _ _ j => ?_) ?_ ?_)
  ·obtain ⟨B16, s17, hD18, m19, ne23, ne24⟩ := j
   exact (LkT.step lk6 s17 nm0).2.1
  ·rintro Dl7 N8 T9 x10 v11 acc13 a14 H15 ⟨B16, s17, hD18, m19, ne23, ne24⟩ r12 hz20 kk21 kn22 P
   have wj26 := w
   have sj25 := s17
   have n27 := st.nn hD18
   replace m_leaves := m_leaves.step s17 nm0
   replace lk6 := lk6.step s17 nm0
   replace st := st.go s17 go0
   replace w := s17.ok
   refine h_know (K := K) w r12 (fun B28 s29 r30 => ?_)
   replace m_leaves := m_leaves.step s29 nm0
   replace lk6 := lk6.step s29 nm0
   replace m19 := m19.step s29 nm0
   replace st := st.go s29 go0
   replace sj25 := sj25.go s29 go0
   replace w := s29.ok
   replace r30 : Rep K B28 (.ref v11) (enc x10) := r30
   have r31 : Rep K B28 (.ref v11) (enc (⟨x10.1, x10.2⟩ : Tp2 Int Int)) := Rep.prT (a := x10.1) (b := x10.2) r30
   obtain ⟨p32, xs33, hv, hs34, hr35⟩ := Rep.st w r31
   cases hv
   obtain ⟨u36, u38, rfl, r37, r39⟩ := RepL.open2 hr35
   refine h_tupG hs34 rfl ?_
   refine h_gcons ?_
   refine h_gname ?_
   cases r37
   refine h_gcons ?_
   refine h_gname ?_
   cases r39
   refine h_gnil ?_
   refine h_lcT rfl ?_
   refine h_op (h_var rfl (h_var rfl (h_dinK m_leaves ?_)))
   refine h_app (b := (hasA a_leaves ((⟨x10.1, x10.2⟩ : Tp2 Int Int).a) != false)) w m19 (Rep.bl _) hz20 (fun H40 s41 m19 => ?_)
   replace m_leaves := m_leaves.step s41 (nm1 ne23)
   replace lk6 := lk6.step s41 (nm1 ne24)
   replace st := st.go s41 (go1 (.inr n27))
   replace sj25 := sj25.go s41 (go1 (.inr hD18))
   replace w := s41.ok
   exact kk21 (hasA a_leaves ((⟨x10.1, x10.2⟩ : Tp2 Int Int).a) != false) () _ ⟨_, sj25, hD18, m19, ne23, ne24⟩ P.ok
  ·rintro Dl7 acc13 a14 H15 ⟨B16, s17, hD18, m19, ne23, ne24⟩ P
   have n42 := st.nn hD18
   replace m_leaves := m_leaves.step s17 nm0
   replace lk6 := lk6.step s17 nm0
   replace st := st.go s17 go0
   replace w := s17.ok
   obtain ⟨h46, s44, m45⟩ := LkT.un2 w lk6
   refine ⟨h46, ?_⟩
   generalize upd H15 p_pairs (HO.dT kv3) = H43 at s44 m45 ⊢
   replace m_leaves := m_leaves.step s44 (nm1 ned1)
   replace m19 := m19.step s44 (nm1 ne24.symm)
   replace st := st.go s44 (go1 (.inl (by simp)))
   replace w := s44.ok
   replace P := P.un2
   obtain ⟨B51, e47, k48, g49, r50⟩ := Mu.keep m19
   replace st := g49 _ _ _ st w0 n42
   replace m_leaves := m_leaves.kp e47 k48 ne23
   replace m45 := m45.kp e47 k48 ne24
   replace w := st.ok
   replace r50 : Rep K B51 (.ref Dl7) (enc acc13) := r50
   refine h_nil ?_
   obtain ⟨p52, xs53, hv, hs54, hr55⟩ := Rep.sq w r50
   cases hv
   refine h_all hs54 hr55 ?_
   exact P.ok _ _ _ st m45 (Rep.bl _)
theorem ok_known {f : Addr} {fd : FuncData}  (F : Fun K "known" "known" s_known f fd) (X_hung : Cal Pr wo K mg base "hung" ["leaves", "pairs"] CX0 6 (sp_hung K)) (X_all_came : Cal Pr wo K mg base "all_came" ["leaves", "pairs"] CX0 1 (sp_all_came K)) (X_values_of : Cal Pr wo K mg base "values_of" ["leaves", "pairs"] CX0 6 (sp_values_of K)) : FnOk Pr wo K mg base CX0 7 f fd ["leaves", "number", "cell"] (sp_known K) := by
 obtain ⟨_, _, g_hung, k_hung, b_hung, G_hung⟩ := X_hung
 obtain ⟨_, _, g_all_came, k_all_came, b_all_came, G_all_came⟩ := X_all_came
 obtain ⟨_, _, g_values_of, k_values_of, b_values_of, G_values_of⟩ := X_values_of
 refine F.ok sc_known (fun vs H Q E h => ?_) (fun cdv A outer s H0 vs Q E hr h => ?_)
 ·obtain ⟨_, _, _, _, _, _, rfl, _⟩ := h; rfl
 ·obtain ⟨B0, p_leaves, a_leaves, a_number, a_cell, w, rfl, m_leaves, P⟩ := h
  have hu64 := hu64_of hr
  have hr1 : Room 1 _ := hr.mono (by decide)
  have hr6 : Room 6 _ := hr.mono (by decide)
  refine ⟨_, (pss_cons (ps_set (i := 3) sc_known.nd rfl (.inl rfl) (pe_call G_hung hr6 rfl g_hung k_hung b_hung .nil pass0 (pa_cons (pv 0) (pa_cons (pe_lst (pa_cons (pe_tup (pa_cons (pv 1) (pa_cons (pv 2) pa_nil))) pa_nil)) pa_nil))))
   (pss_cons (ps_if (pt_not (pt_val (pe_call G_all_came hr1 rfl g_all_came k_all_came b_all_came .nil pass0 (pa_cons (pv 0) (pa_cons (pv 3) pa_nil))))) (pss_one (ps_ret pe_non)) pss_nil)
   (pss_one (ps_ret (pe_dget (hu1 hu64) (pe_call G_values_of hr6 rfl g_values_of k_values_of b_values_of .nil pass0 (pa_cons (pv 0) (pa_cons (pv 3) pa_nil))) (pe_tup (pa_cons (pv 1) (pa_cons (pv 2) pa_nil))) (fun _ _ => rfl)))))), ?_⟩
  unfold m_known at P
  have st := Stp.refl (W := []) w
  refine h_set (h_call (h_cons (h_var rfl (h_cons (h_lst (h_cons (h_tup ?_)))))))
  refine h_cons (h_var rfl (h_cons (h_var rfl (h_nil ?_))))
  refine h_newP w (K := K) (a := a_number) (b := a_cell) (fun p1 B2 H3 s4 r5 => ?_)
  replace m_leaves := m_leaves.step s4 nm0
  replace st := st.go s4 go0
  replace w := s4.ok
  refine h_nil ?_
  refine h_newL w (ds := (([((a_number, a_cell) : Int × Int)] : List (Int × Int))).map enc) (K := K) (.cons r5 .nil) (fun p6 B7 H8 s9 r10 => ?_) (by show 1 ≤ sizeLine; decide)
  replace m_leaves := m_leaves.step s9 nm0
  replace st := st.go s9 go0
  replace w := s9.ok
  replace r10 : Rep K B7 (.ref p6) (enc ([((a_number, a_cell) : Int × Int)] : List (Int × Int))) := r10
  refine h_nil ?_
  refine ⟨B7, p_leaves, a_leaves, (.ref p6), ([((a_number, a_cell) : Int × Int)] : List (Int × Int)), w, rfl, m_leaves, (Rep.bor0 w r10), (P.bind).mono (fun x11 P => ?_) (fun _ z => z)⟩
  refine fun p17 B12 H13 s14 hn18 m19 => ?_
  have n20 := st.nn hn18
  have ne21 := MuK.ne m_leaves hn18
  replace m_leaves := m_leaves.step s14 nm0
  replace r10 := r10.mono s14.ex
  replace st := st.go s14 go0
  replace w := s14.ok
  refine h_seq <| h_if ?_
  refine h_tnot ?_
  refine h_tB ?_
  refine h_call (h_cons (h_var rfl (h_cons (h_var rfl (h_nil ?_)))))
  refine ⟨B12, p_leaves, a_leaves, p17, x11, w, rfl, m_leaves, m19, (P.bind).mono (fun x22 P => ?_) (fun _ z => z)⟩
  refine fun v26 B23 H24 s25 m19 r27 => ?_
  replace m_leaves := m_leaves.step s25 (nm1 ne21)
  replace st := st.go s25 (go1 (.inr n20))
  replace w := s25.ok
  cases r27
  refine h_bl ?_
  refine h_iteN (fun c1 => ?_) (fun c1 => ?_)
  ·replace P := P.iteF c1
   refine h_ret (h_c ?_)
   exact P.ok _ _ _ st Rep.non
  ·replace P := P.iteT c1
   refine h_next ?_
   refine h_nx ?_
   refine h_ret (h_dgetE ?_)
   refine h_call (h_cons (h_var rfl (h_cons (h_var rfl (h_nil ?_)))))
   refine ⟨B23, p_leaves, a_leaves, p17, x22.2, w, rfl, m_leaves, m19, (P.bind).mono (fun x28 P => ?_) (fun _ z => z)⟩
   refine fun p34 B29 H30 s31 hn35 m36 => ?_
   have n37 := st.nn hn35
   have ne38 := MuK.ne m_leaves hn35
   have ne39 := MuT.ne m19 hn35
   replace m_leaves := m_leaves.step s31 nm0
   replace m19 := m19.step s31 nm0
   replace st := st.go s31 go0
   replace w := s31.ok
   refine h_tup ?_
   refine h_cons (h_var rfl (h_cons (h_var rfl (h_nil ?_))))
   refine h_newP w (K := K) (a := a_number) (b := a_cell) (fun p40 B41 H42 s43 r44 => ?_)
   replace m_leaves := m_leaves.step s43 nm0
   replace m19 := m19.step s43 nm0
   replace m36 := m36.step s43 nm0
   replace st := st.go s43 go0
   replace w := s43.ok
   obtain ⟨x45, hx46, P⟩ := P.some
   refine h_dgetT w m36 r44 hx46 (fun u47 r48 => ?_)
   cases r48
   exact P.ok _ _ _ st (Rep.int _)
theorem ok_way_out {f : Addr} {fd : FuncData}  (F : Fun K "way_out" "way_out" s_way_out f fd) (X_needs_of : Cal Pr wo K mg base "needs_of" ["leaves", "pair"] CX0 5 (sp_needs_of K)) (bI_sorted : mg "sorted" = none) (bI_list : mg "list" = none) (bI_any : mg "any" = none) : FnOk Pr wo K mg base CX0 6 f fd ["leaves", "pair", "pairs"] (sp_way_out K) := by
 obtain ⟨_, _, g_needs_of, k_needs_of, b_needs_of, G_needs_of⟩ := X_needs_of
 refine F.ok sc_way_out (fun vs H Q E h => ?_) (fun cdv A outer s H0 vs Q E hr h => ?_)
 ·obtain ⟨_, _, _, _, _, _, _, _, rfl, _⟩ := h; rfl
 ·obtain ⟨B0, p_leaves, a_leaves, v_pair, a_pair, p_pairs, a_pairs, w, rfl, m_leaves, r_pair, m_pairs, P⟩ := h
  have w0 := w
  have hu := hu_of hr
  have hu64 := hu64_of hr
  have hr5 : Room 5 _ := hr.mono (by decide)
  refine ⟨_, (pss_cons (ps_set (i := 3) sc_way_out.nd rfl (by first | exact Or.inl rfl | exact Or.inr rfl) pe_dnewT)
   (pss_cons (ps_for PassesOwn.never rfl (pi_list (pe_callB (r := rSortedPO K) cr_sortedPO (by rfl) bI_sorted PyProof.Rows.boot_sorted (pa_cons (pe_callTy (r := rListT) (cr_listT rfl) (by rfl) bI_list Y.boot_list (pa_cons (pv 2) pa_nil)) pa_nil))) (pg_name (i := 4) sc_way_out.nd rfl (by first | exact Or.inl rfl | exact Or.inr rfl)) (pss_one (ps_if (PW.pt (pw_or (pt_cmpR (r := rDIn true) (op_dnin hu64) (pe_ix (r := rIxT K) ix_tup (pv 4) pe_int (fun _ _ => rfl)) (pv 0) rfl) (pw_or1 (pt_val (pe_callB (r := rAny K) (cr_any rfl) (by rfl) bI_any PyProof.Rows.boot_any (pa_cons (pe_lc (own := [("need", 5)]) rfl sc_way_out.nd (pi_list (pe_call G_needs_of hr5 rfl g_needs_of k_needs_of b_needs_of .nil pass0 (pa_cons (pv 0) (pa_cons (pv 4) pa_nil)))) (blkOk_by (N := ["leaves", "pair", "pairs", "lacks", "one", "need", "way"]) (sc := defScope s_way_out) (by decide +kernel)) (fun _ _ _ _ _ => (pg_name (i := 5) sc_way_out.nd rfl (by first | exact Or.inl rfl | exact Or.inr rfl))) (fun _ _ _ _ _ => pts_nil) (fun _ _ _ _ _ => (pe_cmpR (r := rDIn false) (op_din hu64) (pv 5) (pv 3) rfl))) pa_nil)))))) (pss_one (ps_dput (hu1 hu64) (pv 3) (pv 4) pe_bl rfl)) pss_nil)))
   (pss_cons (ps_set (i := 6) sc_way_out.nd rfl (by first | exact Or.inl rfl | exact Or.inr rfl) (pe_lst (pa_cons (pv 1) pa_nil)))
   (pss_cons (ps_while PassesOwn.never (pt_cmpR (r := rDIn false) (op_din hu64) (pe_ix (r := rIxT K) ix_tup (pe_ix (r := rIxL K) ix_list (pv 6) (pe_un un_neg pe_int) (fun _ _ => rfl)) pe_int (fun _ _ => rfl)) (pv 0) rfl) (pss_one (ps_expr (pe_bm PySem.F.plainAttrs_list PySem.F.slot_list_append PySem.F.type_list_append mt_append (pv 6) (pa_cons (pe_ix (r := rIxL K) ix_list (pe_lc (own := [("need", 5)]) rfl sc_way_out.nd (pi_list (pe_call G_needs_of hr5 rfl g_needs_of k_needs_of b_needs_of .nil pass0 (pa_cons (pv 0) (pa_cons (pe_ix (r := rIxL K) ix_list (pv 6) (pe_un un_neg pe_int) (fun _ _ => rfl)) pa_nil)))) (blkOk_by (N := ["leaves", "pair", "pairs", "lacks", "one", "need", "way"]) (sc := defScope s_way_out) (by decide +kernel)) (fun _ _ _ _ _ => (pg_name (i := 5) sc_way_out.nd rfl (by first | exact Or.inl rfl | exact Or.inr rfl))) (fun _ _ _ _ _ => (pts_one (pt_cmpR (r := rDIn false) (op_din hu64) (pv 5) (pv 3) rfl))) (fun _ _ _ _ _ => (pv 5))) pe_int (fun _ _ => rfl)) pa_nil)))))
   (pss_one (ps_ret (pv 6))))))), ?_⟩
  unfold m_way_out at P
  have st := Stp.refl (W := []) w
  have ned1 := (neKT m_leaves m_pairs)
  refine h_set ?_
  refine h_dnewT w (K := K) (fun p2 H3 hn6 s4 m5 => ?_)
  have n7 := st.nn hn6
  have ne8 := MuK.ne m_leaves hn6
  have ne9 := MuT.ne m_pairs hn6
  replace m_leaves := m_leaves.step s4 nm0
  replace m_pairs := m_pairs.step s4 nm0
  replace st := st.go s4 go0
  replace w := s4.ok
  replace m5 : MuT K B0 H3 p2 (encA ([] : (List ((Int × Int) × Bool)))) := m5
  refine h_seq (h_forE ?_)
  refine h_cb (h_cons (h_cb (h_cons (h_var rfl (h_nil ?_)))))
  refine h_listDT (K := K) w m_pairs (fun p11 B10 H12 hn15 s13 m14 => ?_)
  have n16 := st.nn hn15
  have ne17 := MuK.ne m_leaves hn15
  have ne18 := MuT.ne m_pairs hn15
  have ne19 := MuT.ne m5 hn15
  replace m_leaves := m_leaves.step s13 nm0
  replace m_pairs := m_pairs.step s13 nm0
  replace m5 := m5.step s13 nm0
  replace st := st.go s13 go0
  replace w := s13.ok
  replace m14 : Mu K B10 H12 p11 (((a_pairs.map (·.1)) : (List (Int × Int))).map enc) := m14
  refine h_nil ?_
  obtain ⟨xs21, hv, hs22, hr23⟩ := Mu.sq m14
  refine h_sortP (K := K) w hs22 hr23 (fun p24 H25 hn28 s26 m27 => ?_)
  have n29 := st.nn hn28
  have ne30 := MuK.ne m_leaves hn28
  have ne31 := MuT.ne m_pairs hn28
  have ne32 := MuT.ne m5 hn28
  have ne33 := Mu.ne m14 hn28
  replace m_leaves := m_leaves.step s26 nm0
  replace m_pairs := m_pairs.step s26 nm0
  replace m5 := m5.step s26 nm0
  replace m14 := m14.step s26 nm0
  replace st := st.go s26 go0
  replace w := s26.ok
  replace m27 : Mu K B10 H25 p24 (((sortP (a_pairs.map (·.1))) : (List (Int × Int))).map enc) := m27
  obtain ⟨B38, e34, k35, g36, r37⟩ := Mu.keep m27
  replace st := g36 _ _ _ st w0 n29
  replace m_leaves := m_leaves.kp e34 k35 ne30
  replace m_pairs := m_pairs.kp e34 k35 ne31
  replace m5 := m5.kp e34 k35 ne32
  replace w := st.ok
  replace r37 : Rep K B38 (.ref p24) (enc (sortP (a_pairs.map (·.1)))) := r37
  obtain ⟨p39, xs40, hv, hb41, hr42⟩ := Rep.sqB r37
  cases hv
  have wj44 := w
  have sj43 := Stp.refl (W := [p2]) w
  refine h_forL P (w.l hb41) hr42 (fun (a : (List ((Int × Int) × Bool))) σ' H' => ∃ (B' : Hp) (o_need : Option V) (o_one : Option V), Stp [p2] B38 H25 B' H' ∧ σ' = [some ((.ref p_leaves)), some (v_pair), some ((.ref p_pairs)), some ((.ref p2)), o_one, o_need, none] ∧ MuT K B' H' p2 (encA a)) ⟨_, _, _, sj43, rfl, m5⟩ (fun _ _ _ j => ?_) ?_ ?_
  ·obtain ⟨B54, o57, o58, s56, rfl, m5⟩ := j
   exact s56.ok.l (s56.ex.l hb41)
  ·rintro N45 T46 x51 v52 a50 _ H55 ⟨B54, o57, o58, s56, rfl, m5⟩ r53 kk47 kr48 kb49 P
   replace m_leaves := m_leaves.step s56 (nm1 ne8)
   replace m_pairs := m_pairs.step s56 (nm1 ne9)
   replace st := st.go s56 (go1 (.inr n7))
   replace w := s56.ok
   have sj43 := s56
   replace r53 := r53.mono sj43.ex
   refine h_gname ?_
   refine h_if ?_
   have wj60 := w
   have sj59 := Stp.refl (W := []) w
   refine h_condJ P (fun H' => ∃ B', Stp [] B54 H55 B' H') (fun N kk61 P => ?_) ?_
   ·skip
    refine h_tor ?_
    refine h_test ?_
    refine h_op (h_op (h_var rfl (h_c ?_)))
    have r62 : Rep K B54 v52 (enc (⟨x51.1, x51.2⟩ : Tp2 Int Int)) := Rep.prT (a := x51.1) (b := x51.2) r53
    obtain ⟨p63, xs64, rfl, hs65, hr66⟩ := Rep.st w r62
    obtain ⟨u67, hu, r68⟩ := RepL.at hr66 (i := 0) rfl
    refine h_ixT hs65 hu ?_
    cases r68
    refine h_var rfl (h_dinK m_leaves ?_)
    refine h_bl ?_
    refine h_ite (fun c1 => ?_) (fun c1 => ?_)
    ·replace P := P.iteT c1
     exact kk61 _ _ ⟨_, sj59⟩ P.ok
    ·replace P := P.iteF c1
     refine h_tB ?_
     refine h_cb (h_cons (h_lcE ?_))
     refine h_call (h_cons (h_var rfl (h_cons (h_var rfl (h_nil ?_)))))
     refine ⟨B54, p_leaves, a_leaves, (.ref p63), x51, w, rfl, m_leaves, r53, (P.bind).mono (fun x69 P => ?_) (fun _ z => z)⟩
     refine fun p75 B70 H71 s72 hn76 m77 => ?_
     have n79 := st.nn hn76
     have n80 := sj43.nn hn76
     have n81 := sj59.nn hn76
     have ne82 := MuK.ne m_leaves hn76
     have ne83 := MuT.ne m_pairs hn76
     have ne84 := MuT.ne m5 hn76
     replace m_leaves := m_leaves.step s72 nm0
     replace m_pairs := m_pairs.step s72 nm0
     replace m5 := m5.step s72 nm0
     replace r53 := r53.mono s72.ex
     replace st := st.go s72 go0
     replace sj43 := sj43.go s72 go0
     replace sj59 := sj59.go s72 go0
     replace w := s72.ok
     obtain ⟨B89, e85, k86, g87, r88⟩ := Mu.keep m77
     replace st := g87 _ _ _ st w0 n79
     replace sj43 := g87 _ _ _ sj43 wj44 n80
     replace sj59 := g87 _ _ _ sj59 wj60 n81
     replace m_leaves := m_leaves.kp e85 k86 ne82
     replace m_pairs := m_pairs.kp e85 k86 ne83
     replace m5 := m5.kp e85 k86 ne84
     replace r53 := r53.mono e85
     replace w := st.ok
     replace r88 : Rep K B89 (.ref p75) (enc x69) := r88
     obtain ⟨p90, xs91, hv, hb92, hr93⟩ := Rep.sqB r88
     cases hv
     refine h_lcL P (w.l hb92) hr93 (fun Dl (acc : List Bool) (a : Unit) H' => ∃ B', Stp [] B89 H71 B' H' ∧ H71 Dl = none ∧ Mu K B' H' Dl (acc.map enc) ∧ p_leaves ≠ Dl ∧ p_pairs ≠ Dl ∧ p2 ≠ Dl) (fun Dl hD => ⟨_, Stp.newM w hD, hD, Mu.new w hD .nil, MuK.ne m_leaves hD, MuT.ne m_pairs hD, MuT.ne m5 hD⟩) (fun _ _ _ _ j => ?_) ?_ ?_
     ·obtain ⟨B103, s104, hD105, m106, ne110, ne111, ne112⟩ := j
      exact s104.ok.l (s104.ex.l hb92)
     ·rintro Dl94 N95 T96 x97 v98 acc100 a101 H102 ⟨B103, s104, hD105, m106, ne110, ne111, ne112⟩ r99 hz107 kk108 kn109 P
      have wj114 := w
      have sj113 := s104
      have n115 := st.nn hD105
      have n116 := sj43.nn hD105
      have n117 := sj59.nn hD105
      replace m_leaves := m_leaves.step s104 nm0
      replace m_pairs := m_pairs.step s104 nm0
      replace m5 := m5.step s104 nm0
      replace r53 := r53.mono s104.ex
      replace st := st.go s104 go0
      replace sj43 := sj43.go s104 go0
      replace sj59 := sj59.go s104 go0
      replace w := s104.ok
      replace r99 := r99.mono s104.ex
      refine h_gname ?_
      refine h_lcT rfl ?_
      refine h_op (h_var rfl (h_var rfl (h_dinT w m5 r99 ?_)))
      refine h_app (b := (hasA a50 x97 != false)) w m106 (Rep.bl _) hz107 (fun H118 s119 m106 => ?_)
      replace m_leaves := m_leaves.step s119 (nm1 ne110)
      replace m_pairs := m_pairs.step s119 (nm1 ne111)
      replace m5 := m5.step s119 (nm1 ne112)
      replace r53 := r53.mono s119.ex
      replace r99 := r99.mono s119.ex
      replace st := st.go s119 (go1 (.inr n115))
      replace sj43 := sj43.go s119 (go1 (.inr n116))
      replace sj59 := sj59.go s119 (go1 (.inr n117))
      replace sj113 := sj113.go s119 (go1 (.inr hD105))
      replace w := s119.ok
      exact kk108 (hasA a50 x97 != false) () _ ⟨_, sj113, hD105, m106, ne110, ne111, ne112⟩ P.ok
     ·rintro Dl94 acc100 a101 H102 ⟨B103, s104, hD105, m106, ne110, ne111, ne112⟩ P
      have n120 := st.nn hD105
      have n121 := sj43.nn hD105
      have n122 := sj59.nn hD105
      replace m_leaves := m_leaves.step s104 nm0
      replace m_pairs := m_pairs.step s104 nm0
      replace m5 := m5.step s104 nm0
      replace r53 := r53.mono s104.ex
      replace st := st.go s104 go0
      replace sj43 := sj43.go s104 go0
      replace sj59 := sj59.go s104 go0
      replace w := s104.ok
      replace P := P.un2
      obtain ⟨B127, e123, k124, g125, r126⟩ := Mu.keep m106
      replace st := g125 _ _ _ st w0 n120
      replace sj43 := g125 _ _ _ sj43 wj44 n121
      replace sj59 := g125 _ _ _ sj59 wj60 n122
      replace m_leaves := m_leaves.kp e123 k124 ne110
      replace m_pairs := m_pairs.kp e123 k124 ne111
      replace m5 := m5.kp e123 k124 ne112
      replace r53 := r53.mono e123
      replace w := st.ok
      replace r126 : Rep K B127 (.ref Dl94) (enc acc100) := r126
      refine h_nil ?_
      obtain ⟨p128, xs129, hv, hs130, hr131⟩ := Rep.sq w r126
      cases hv
      refine h_any hs130 hr131 ?_
      refine h_bl ?_
      exact kk61 _ _ ⟨_, sj59⟩ P.ok
   rintro b132 H134 ⟨B133, s135⟩ P
   replace m_leaves := m_leaves.step s135 nm0
   replace m_pairs := m_pairs.step s135 nm0
   replace m5 := m5.step s135 nm0
   replace r53 := r53.mono s135.ex
   replace st := st.go s135 go0
   replace sj43 := sj43.go s135 go0
   replace w := s135.ok
   refine h_ite (fun c1 => ?_) (fun c1 => ?_)
   ·replace P := P.iteT c1
    refine h_dputE ?_
    refine h_c (h_var rfl (h_var rfl ?_))
    obtain ⟨gd, P⟩ := P.guard
    refine h_dputT (x := (true : Bool)) w m5 (Rep.bl _) r53 gd (fun H136 s137 m5 => ?_)
    replace m_leaves := m_leaves.step s137 (nm1 ne8)
    replace m_pairs := m_pairs.step s137 (nm1 ne9)
    replace r53 := r53.mono s137.ex
    replace st := st.go s137 (go1 (.inr n7))
    replace sj43 := sj43.go s137 (go1 (.inl (by simp)))
    replace w := s137.ok
    refine h_nx ?_
    exact kk47 (putA a50 x51 (true : Bool)) _ _ ⟨_, _, _, sj43, rfl, m5⟩ P.ok
   ·replace P := P.iteF c1
    refine h_next ?_
    refine h_nx ?_
    exact kk47 a50 _ _ ⟨_, _, _, sj43, rfl, m5⟩ P.ok
  ·rintro a138 _ H140 ⟨B139, o142, o143, s141, rfl, m5⟩ P
   replace m_leaves := m_leaves.step s141 (nm1 ne8)
   replace m_pairs := m_pairs.step s141 (nm1 ne9)
   replace st := st.go s141 (go1 (.inr n7))
   replace w := s141.ok
   refine h_nx ?_
   refine h_set (h_lst (h_cons (h_var rfl (h_nil ?_))))
   refine h_newM w (ds := (([a_pair] : List (Int × Int))).map enc) (K := K) (.cons (r_pair.mono st.ex) .nil) (fun p144 H145 hn148 s146 m147 => ?_) (by show 1 ≤ sizeLine; decide)
   have n149 := st.nn hn148
   have ne150 := MuK.ne m_leaves hn148
   have ne151 := MuT.ne m_pairs hn148
   have ne152 := MuT.ne m5 hn148
   replace m_leaves := m_leaves.step s146 nm0
   replace m_pairs := m_pairs.step s146 nm0
   replace m5 := m5.step s146 nm0
   replace st := st.go s146 go0
   replace w := s146.ok
   refine h_seq ?_
   have wj154 := w
   have sj153 := Stp.refl (W := [p144]) w
   refine h_while P (fun (a : (List (Int × Int))) σ' H' => ∃ (B' : Hp) (o_need : Option V), Stp [p144] B139 H145 B' H' ∧ σ' = [some ((.ref p_leaves)), some (v_pair), some ((.ref p_pairs)), some ((.ref p2)), o143, o_need, some ((.ref p144))] ∧ Mu K B' H' p144 (a.map enc)) ⟨_, _, sj153, rfl, m147⟩ ?_ ?_
   ·rintro N155 C156 T157 a162 _ H164 ⟨B163, o166, s165, rfl, m147⟩ kn158 kk159 kr160 kb161 P
    replace m_leaves := m_leaves.step s165 (nm1 ne150)
    replace m_pairs := m_pairs.step s165 (nm1 ne151)
    replace m5 := m5.step s165 (nm1 ne152)
    replace st := st.go s165 (go1 (.inr n149))
    replace w := s165.ok
    have sj153 := s165
    refine h_test ?_
    refine h_op (h_op (h_op (h_var rfl (h_un ?_))))
    refine h_c (h_U ?_)
    obtain ⟨xs168, hv, hs169, hr170⟩ := Mu.sq m147
    obtain ⟨x171, hx172, P⟩ := P.ix
    obtain ⟨u173, hu, r174⟩ := RepL.atE hr170 hx172
    refine h_ixL hs169 hu ?_
    refine h_c ?_
    have r175 : Rep K B163 u173 (enc (⟨x171.1, x171.2⟩ : Tp2 Int Int)) := Rep.prT (a := x171.1) (b := x171.2) r174
    obtain ⟨p176, xs177, rfl, hs178, hr179⟩ := Rep.st w r175
    obtain ⟨u180, hu, r181⟩ := RepL.at hr179 (i := 0) rfl
    refine h_ixT hs178 hu ?_
    cases r181
    refine h_var rfl (h_dinK m_leaves ?_)
    refine h_bl ?_
    refine h_ite (fun c1 => ?_) (fun c1 => ?_)
    ·replace P := P.iteT c1
     refine ⟨N155, kn158, ?_⟩
     refine h_drop ?_
     refine h_bm ?_
     refine h_var rfl (h_bmL m147 ?_)
     refine h_cons (h_op (h_lcE ?_))
     refine h_call (h_cons (h_var rfl (h_cons (h_op (h_var rfl (h_un ?_))))))
     refine h_c (h_U ?_)
     obtain ⟨xs183, hv, hs184, hr185⟩ := Mu.sq m147
     obtain ⟨x186, hx187, P⟩ := P.ix
     obtain ⟨u188, hu, r189⟩ := RepL.atE hr185 hx187
     refine h_ixL hs184 hu ?_
     refine h_nil ?_
     refine ⟨B163, p_leaves, a_leaves, u188, x186, w, rfl, m_leaves, r189, (P.bind).mono (fun x190 P => ?_) (fun _ z => z)⟩
     refine fun p196 B191 H192 s193 hn197 m198 => ?_
     have n200 := st.nn hn197
     have n201 := sj153.nn hn197
     have ne202 := MuK.ne m_leaves hn197
     have ne203 := MuT.ne m_pairs hn197
     have ne204 := MuT.ne m5 hn197
     have ne205 := Mu.ne m147 hn197
     replace m_leaves := m_leaves.step s193 nm0
     replace m_pairs := m_pairs.step s193 nm0
     replace m5 := m5.step s193 nm0
     replace m147 := m147.step s193 nm0
     replace r189 := r189.mono s193.ex
     replace st := st.go s193 go0
     replace sj153 := sj153.go s193 go0
     replace w := s193.ok
     obtain ⟨B210, e206, k207, g208, r209⟩ := Mu.keep m198
     replace st := g208 _ _ _ st w0 n200
     replace sj153 := g208 _ _ _ sj153 wj154 n201
     replace m_leaves := m_leaves.kp e206 k207 ne202
     replace m_pairs := m_pairs.kp e206 k207 ne203
     replace m5 := m5.kp e206 k207 ne204
     replace m147 := m147.kp e206 k207 ne205
     replace w := st.ok
     replace r209 : Rep K B210 (.ref p196) (enc x190) := r209
     obtain ⟨p211, xs212, hv, hb213, hr214⟩ := Rep.sqB r209
     cases hv
     refine h_lcL P (w.l hb213) hr214 (fun Dl (acc : List (Int × Int)) (a : Unit) H' => ∃ B', Stp [] B210 H192 B' H' ∧ H192 Dl = none ∧ Mu K B' H' Dl (acc.map enc) ∧ p_leaves ≠ Dl ∧ p_pairs ≠ Dl ∧ p2 ≠ Dl ∧ p144 ≠ Dl) (fun Dl hD => ⟨_, Stp.newM w hD, hD, Mu.new w hD .nil, MuK.ne m_leaves hD, MuT.ne m_pairs hD, MuT.ne m5 hD, Mu.ne m147 hD⟩) (fun _ _ _ _ j => ?_) ?_ ?_
     ·obtain ⟨B224, s225, hD226, m227, ne231, ne232, ne233, ne234⟩ := j
      exact s225.ok.l (s225.ex.l hb213)
     ·rintro Dl215 N216 T217 x218 v219 acc221 a222 H223 ⟨B224, s225, hD226, m227, ne231, ne232, ne233, ne234⟩ r220 hz228 kk229 kn230 P
      have wj236 := w
      have sj235 := s225
      have n237 := st.nn hD226
      have n238 := sj153.nn hD226
      replace m_leaves := m_leaves.step s225 nm0
      replace m_pairs := m_pairs.step s225 nm0
      replace m5 := m5.step s225 nm0
      replace m147 := m147.step s225 nm0
      replace st := st.go s225 go0
      replace sj153 := sj153.go s225 go0
      replace w := s225.ok
      replace r220 := r220.mono s225.ex
      refine h_gname ?_
      refine h_lcI rfl ?_
      refine h_test ?_
      refine h_op (h_var rfl (h_var rfl (h_dinT w m5 r220 ?_)))
      refine h_bl ?_
      refine h_ite (fun c1 => ?_) (fun c1 => ?_)
      ·replace P := P.iteT c1
       refine h_var rfl ?_
       refine h_app (b := x218) w m227 r220 hz228 (fun H239 s240 m227 => ?_)
       replace m_leaves := m_leaves.step s240 (nm1 ne231)
       replace m_pairs := m_pairs.step s240 (nm1 ne232)
       replace m5 := m5.step s240 (nm1 ne233)
       replace m147 := m147.step s240 (nm1 ne234)
       replace r220 := r220.mono s240.ex
       replace st := st.go s240 (go1 (.inr n237))
       replace sj153 := sj153.go s240 (go1 (.inr n238))
       replace sj235 := sj235.go s240 (go1 (.inr hD226))
       replace w := s240.ok
       exact kk229 x218 () _ ⟨_, sj235, hD226, m227, ne231, ne232, ne233, ne234⟩ P.ok
      ·replace P := P.iteF c1
       exact kn230 () _ ⟨_, sj235, hD226, m227, ne231, ne232, ne233, ne234⟩ P.ok
     ·rintro Dl215 acc221 a222 H223 ⟨B224, s225, hD226, m227, ne231, ne232, ne233, ne234⟩ P
      have n241 := st.nn hD226
      have n242 := sj153.nn hD226
      replace m_leaves := m_leaves.step s225 nm0
      replace m_pairs := m_pairs.step s225 nm0
      replace m5 := m5.step s225 nm0
      replace m147 := m147.step s225 nm0
      replace st := st.go s225 go0
      replace sj153 := sj153.go s225 go0
      replace w := s225.ok
      replace P := P.un2
      obtain ⟨B247, e243, k244, g245, r246⟩ := Mu.keep m227
      replace st := g245 _ _ _ st w0 n241
      replace sj153 := g245 _ _ _ sj153 wj154 n242
      replace m_leaves := m_leaves.kp e243 k244 ne231
      replace m_pairs := m_pairs.kp e243 k244 ne232
      replace m5 := m5.kp e243 k244 ne233
      replace m147 := m147.kp e243 k244 ne234
      replace w := st.ok
      replace r246 : Rep K B247 (.ref Dl215) (enc acc221) := r246
      refine h_c ?_
      obtain ⟨p248, xs249, hv, hs250, hr251⟩ := Rep.sq w r246
      cases hv
      obtain ⟨x252, hx253, P⟩ := P.ix
      obtain ⟨u254, hu, r255⟩ := RepL.atE hr251 hx253
      refine h_ixL hs250 hu ?_
      refine h_nil ?_
      obtain ⟨gd, P⟩ := P.guard
      refine h_append (b := x252) w m147 r255 gd (fun H256 s257 m147 => ?_)
      replace m_leaves := m_leaves.step s257 (nm1 ne150)
      replace m_pairs := m_pairs.step s257 (nm1 ne151)
      replace m5 := m5.step s257 (nm1 ne152)
      replace st := st.go s257 (go1 (.inr n149))
      replace sj153 := sj153.go s257 (go1 (.inl (by simp)))
      replace w := s257.ok
      refine h_nx ?_
      exact kk159 (a162 ++ [x252]) _ _ ⟨_, _, sj153, rfl, m147⟩ P.ok
    ·replace P := P.iteF c1
     exact kb161 a162 _ _ ⟨_, _, sj153, rfl, m147⟩ P.ok
   ·rintro a258 _ H260 ⟨B259, o262, s261, rfl, m147⟩ P
    replace m_leaves := m_leaves.step s261 (nm1 ne150)
    replace m_pairs := m_pairs.step s261 (nm1 ne151)
    replace m5 := m5.step s261 (nm1 ne152)
    replace st := st.go s261 (go1 (.inr n149))
    replace w := s261.ok
    refine h_nx ?_
    refine h_ret (h_var rfl ?_)
    exact P.ok _ _ _ st n149 m147
theorem ok_NotKnown____init__ {f : Addr} {fd : FuncData} (F : Fun K "__init__" "NotKnown.__init__" s_NotKnown____init__ f fd) {C_ScrollError : Addr} (xg_ScrollError : mg "ScrollError" = some (.ref C_ScrollError)) (xr_ScrollError : ClX.CRead K C_ScrollError (.type "type")) (xv_ScrollError : PySem.W.findCls K (.ref C_ScrollError) (.type "type") "__init__" = some (.val (.builtin "ValueError.__init__"))) : FnOk Pr wo K mg base CX0 1 f fd ["self", "way"] (spXi1 K "way") := by
 refine F.ok sc_NotKnown____init__ (fun vs H Q E h => by obtain ⟨_, _, _, rfl, _⟩ := h; rfl) (fun cdv A outer s H vs Q E hr h => ?_)
 obtain ⟨a, C, v1, rfl, T, n1, ea, k⟩ := h
 refine ⟨_, pss_cons (ps_expr (pe_xini (pe_glob (v := .ref C_ScrollError) (by rfl) xg_ScrollError rfl) xr_ScrollError xv_ScrollError (pa_cons (pv 0) (pa_cons pe_str pa_nil)))) (pss_one (ps_ost (pv 0) (pv 1))), ?_⟩
 refine h_seq (h_drop (h_xini ⟨rfl, h_cons (h_var rfl (h_cons (h_c (h_nil ⟨a, C, _, rfl, by decide, T, ea, ?_⟩))))⟩))
 exact h_ost1 (fun H Q q => h_var rfl q) (fun H Q q => h_var rfl q) T n1 ea k
theorem ok_table {f : Addr} {fd : FuncData}  (F : Fun K "table" "table" s_table f fd) {f_NotKnown____init__ : Addr} {d_NotKnown____init__ : FuncData} {C_NotKnown : Addr} (XF_NotKnown : ExcF1 K C_NotKnown f_NotKnown____init__ "way") (G_NotKnown____init__ : FnOk Pr wo K mg base CX0 1 f_NotKnown____init__ d_NotKnown____init__ ["self", "way"] (spXi1 K "way")) (T_NotKnown : ExcT K mg "NotKnown" C_NotKnown) (b_NotKnown____init__ : L2.Binds K d_NotKnown____init__ ["self", "way"] []) (X_hung : Cal Pr wo K mg base "hung" ["leaves", "pairs"] CX0 6 (sp_hung K)) (X_values_of : Cal Pr wo K mg base "values_of" ["leaves", "pairs"] CX0 6 (sp_values_of K)) (X_all_came : Cal Pr wo K mg base "all_came" ["leaves", "pairs"] CX0 1 (sp_all_came K)) (X_way_out : Cal Pr wo K mg base "way_out" ["leaves", "pair", "pairs"] CX0 6 (sp_way_out K)) (bI_sorted : mg "sorted" = none) (bI_list : mg "list" = none) : FnOk Pr wo K mg base (L2.CX Pr wo) 7 f fd ["leaves", "number", "cell"] (sp_table K mg) := by
 obtain ⟨_, _, g_hung, k_hung, b_hung, G_hung⟩ := X_hung
 obtain ⟨_, _, g_values_of, k_values_of, b_values_of, G_values_of⟩ := X_values_of
 obtain ⟨_, _, g_all_came, k_all_came, b_all_came, G_all_came⟩ := X_all_came
 obtain ⟨_, _, g_way_out, k_way_out, b_way_out, G_way_out⟩ := X_way_out
 refine F.okX sc_table (fun vs H Q E h => ?_) (fun cdv A outer s H0 vs Q E hr h => ?_)
 ·obtain ⟨_, _, _, _, _, _, rfl, _⟩ := h; rfl
 ·obtain ⟨B0, p_leaves, a_leaves, a_number, a_cell, w, rfl, m_leaves, P⟩ := h
  have w0 := w
  have hu64 := hu64_of hr
  have hr1 : Room 1 _ := hr.mono (by decide)
  have hr2 : Room 2 _ := hr.mono (by decide)
  have hr6 : Room 6 _ := hr.mono (by decide)
  refine ⟨_, (pss_cons (ps_set (i := 3) sc_table.nd rfl (by first | exact Or.inl rfl | exact Or.inr rfl) (pe_call G_hung hr6 rfl g_hung k_hung b_hung .nil pass0 (pa_cons (pv 0) (pa_cons (pe_lst (pa_cons (pe_tup (pa_cons (pv 1) (pa_cons (pv 2) pa_nil))) pa_nil)) pa_nil))))
   (pss_cons (ps_if (pt_not (pt_val (pe_call G_all_came hr1 rfl g_all_came k_all_came b_all_came .nil pass0 (pa_cons (pv 0) (pa_cons (pv 3) pa_nil))))) (pss_one (ps_raise rfl (takes_of rfl rfl rfl rfl) (pmk2 (pmkX1 XF_NotKnown G_NotKnown____init__ hr2 b_NotKnown____init__ pass0 rfl T_NotKnown.g (pa_cons (pe_call G_way_out hr6 rfl g_way_out k_way_out b_way_out .nil pass0 (pa_cons (pv 0) (pa_cons (pe_tup (pa_cons (pv 1) (pa_cons (pv 2) pa_nil))) (pa_cons (pv 3) pa_nil)))) pa_nil))))) pss_nil)
   (pss_cons (ps_set (i := 4) sc_table.nd rfl (by first | exact Or.inl rfl | exact Or.inr rfl) (pe_call G_values_of hr6 rfl g_values_of k_values_of b_values_of .nil pass0 (pa_cons (pv 0) (pa_cons (pv 3) pa_nil))))
   (pss_one (ps_ret (pe_lc (own := [("at", 5), ("there", 6)]) rfl sc_table.nd (pi_list (pe_callB (r := rSortedPO K) cr_sortedPO (by rfl) bI_sorted PyProof.Rows.boot_sorted (pa_cons (pe_callTy (r := rListT) (cr_listT rfl) (by rfl) bI_list Y.boot_list (pa_cons (pv 3) pa_nil)) pa_nil))) (blkOk_by (N := ["leaves", "number", "cell", "pairs", "values", "at", "there"]) (sc := defScope s_table) (by decide +kernel)) (fun _ _ _ _ _ => (pg_tupK (K := K) (n := 2) rfl rfl (pgs_cons (pg_name (i := 5) sc_table.nd rfl (by first | exact Or.inl rfl | exact Or.inr rfl)) (pgs_cons (pg_name (i := 6) sc_table.nd rfl (by first | exact Or.inl rfl | exact Or.inr rfl)) pgs_nil)))) (fun _ _ _ _ _ => pts_nil) (fun _ _ _ _ _ => (pe_tup (pa_cons (pv 5) (pa_cons (pv 6) (pa_cons (pe_dget (hu1 hu64) (pv 4) (pe_tup (pa_cons (pv 5) (pa_cons (pv 6) pa_nil))) (fun _ _ => rfl)) pa_nil))))))))))), ?_⟩
  unfold m_table at P
  have st := Stp.refl (W := []) w
  refine h_set (h_call (h_cons (h_var rfl (h_cons (h_lst (h_cons (h_tup ?_)))))))
  refine h_cons (h_var rfl (h_cons (h_var rfl (h_nil ?_))))
  refine h_newP w (K := K) (a := a_number) (b := a_cell) (fun p1 B2 H3 s4 r5 => ?_)
  replace m_leaves := m_leaves.step s4 nm0
  replace st := st.go s4 go0
  replace w := s4.ok
  refine h_nil ?_
  refine h_newL w (ds := (([((a_number, a_cell) : Int × Int)] : List (Int × Int))).map enc) (K := K) (.cons r5 .nil) (fun p6 B7 H8 s9 r10 => ?_) (by show 1 ≤ sizeLine; decide)
  replace m_leaves := m_leaves.step s9 nm0
  replace st := st.go s9 go0
  replace w := s9.ok
  replace r10 : Rep K B7 (.ref p6) (enc ([((a_number, a_cell) : Int × Int)] : List (Int × Int))) := r10
  refine h_nil ?_
  refine ⟨B7, p_leaves, a_leaves, (.ref p6), ([((a_number, a_cell) : Int × Int)] : List (Int × Int)), w, rfl, m_leaves, (Rep.bor0 w r10), (P.bind.noErr).mono (fun x11 P => ?_) (fun _ z => z.elim)⟩
  refine fun p17 B12 H13 s14 hn18 m19 => ?_
  have n20 := st.nn hn18
  have ne21 := MuK.ne m_leaves hn18
  replace m_leaves := m_leaves.step s14 nm0
  replace r10 := r10.mono s14.ex
  replace st := st.go s14 go0
  replace w := s14.ok
  refine h_seq <| h_if ?_
  refine h_tnot ?_
  refine h_tB ?_
  refine h_call (h_cons (h_var rfl (h_cons (h_var rfl (h_nil ?_)))))
  refine ⟨B12, p_leaves, a_leaves, p17, x11, w, rfl, m_leaves, m19, (P.bind.noErr).mono (fun x22 P => ?_) (fun _ z => z.elim)⟩
  refine fun v26 B23 H24 s25 m19 r27 => ?_
  replace m_leaves := m_leaves.step s25 (nm1 ne21)
  replace st := st.go s25 (go1 (.inr n20))
  replace w := s25.ok
  cases r27
  refine h_bl ?_
  refine h_iteN (fun c1 => ?_) (fun c1 => ?_)
  ·replace P := P.iteF c1
   refine h_xk1 ?_
   refine h_cons (h_call (h_cons (h_var rfl (h_cons (h_tup ?_)))))
   refine h_cons (h_var rfl (h_cons (h_var rfl (h_nil ?_))))
   refine h_newP w (K := K) (a := a_number) (b := a_cell) (fun p28 B29 H30 s31 r32 => ?_)
   replace m_leaves := m_leaves.step s31 nm0
   replace m19 := m19.step s31 nm0
   replace st := st.go s31 go0
   replace w := s31.ok
   refine h_cons (h_var rfl (h_nil ?_))
   refine ⟨B29, p_leaves, a_leaves, (.ref p28), ((a_number, a_cell) : Int × Int), p17, x22.2, w, rfl, m_leaves, r32, m19, (P.bind.noErr).mono (fun x33 P => ?_) (fun _ z => z.elim)⟩
   refine fun p39 B34 H35 s36 hn40 m41 => ?_
   have n43 := st.nn hn40
   have ne44 := MuK.ne m_leaves hn40
   have ne45 := MuT.ne m19 hn40
   replace m_leaves := m_leaves.step s36 nm0
   replace m19 := m19.step s36 nm0
   replace r32 := r32.mono s36.ex
   replace st := st.go s36 go0
   replace w := s36.ok
   refine h_nil ?_
   obtain ⟨gd, P⟩ := P.guard
   obtain ⟨B50, e46, k47, g48, r49, rn51⟩ := Mu.keepN m41 gd n43
   replace st := g48 _ _ _ st w0 n43
   replace m_leaves := m_leaves.kp e46 k47 ne44
   replace m19 := m19.kp e46 k47 ne45
   replace w := st.ok
   replace r49 : Rep K B50 (.ref p39) (enc x33) := r49
   refine ⟨_, rfl, fun dx52 hn53 => ?_⟩
   exact P.err _ (some dx52) _ _ T_NotKnown.g (st.go (Stp.newM w hn53) go0) ⟨dx52, _, _, rfl, upd_same, rfl, rn51⟩
  ·replace P := P.iteT c1
   refine h_next ?_
   refine h_nx ?_
   refine h_set (h_call (h_cons (h_var rfl (h_cons (h_var rfl (h_nil ?_))))))
   refine ⟨B23, p_leaves, a_leaves, p17, x22.2, w, rfl, m_leaves, m19, (P.bind.noErr).mono (fun x54 P => ?_) (fun _ z => z.elim)⟩
   refine fun p60 B55 H56 s57 hn61 m62 => ?_
   have n63 := st.nn hn61
   have ne64 := MuK.ne m_leaves hn61
   have ne65 := MuT.ne m19 hn61
   replace m_leaves := m_leaves.step s57 nm0
   replace m19 := m19.step s57 nm0
   replace st := st.go s57 go0
   replace w := s57.ok
   refine h_ret (h_lcE ?_)
   refine h_cb (h_cons (h_cb (h_cons (h_var rfl (h_nil ?_)))))
   refine h_listDT (K := K) w m19 (fun p67 B66 H68 hn71 s69 m70 => ?_)
   have n72 := st.nn hn71
   have ne73 := MuK.ne m_leaves hn71
   have ne74 := MuT.ne m19 hn71
   have ne75 := MuT.ne m62 hn71
   replace m_leaves := m_leaves.step s69 nm0
   replace m19 := m19.step s69 nm0
   replace m62 := m62.step s69 nm0
   replace st := st.go s69 go0
   replace w := s69.ok
   replace m70 : Mu K B66 H68 p67 (((x22.2.map (·.1)) : (List (Int × Int))).map enc) := m70
   refine h_nil ?_
   obtain ⟨xs77, hv, hs78, hr79⟩ := Mu.sq m70
   refine h_sortP (K := K) w hs78 hr79 (fun p80 H81 hn84 s82 m83 => ?_)
   have n85 := st.nn hn84
   have ne86 := MuK.ne m_leaves hn84
   have ne87 := MuT.ne m19 hn84
   have ne88 := MuT.ne m62 hn84
   have ne89 := Mu.ne m70 hn84
   replace m_leaves := m_leaves.step s82 nm0
   replace m19 := m19.step s82 nm0
   replace m62 := m62.step s82 nm0
   replace m70 := m70.step s82 nm0
   replace st := st.go s82 go0
   replace w := s82.ok
   replace m83 : Mu K B66 H81 p80 (((sortP (x22.2.map (·.1))) : (List (Int × Int))).map enc) := m83
   obtain ⟨B94, e90, k91, g92, r93⟩ := Mu.keep m83
   replace st := g92 _ _ _ st w0 n85
   replace m_leaves := m_leaves.kp e90 k91 ne86
   replace m19 := m19.kp e90 k91 ne87
   replace m62 := m62.kp e90 k91 ne88
   replace w := st.ok
   replace r93 : Rep K B94 (.ref p80) (enc (sortP (x22.2.map (·.1)))) := r93
   obtain ⟨p95, xs96, hv, hb97, hr98⟩ := Rep.sqB r93
   cases hv
   refine h_lcL P (w.l hb97) hr98 (fun Dl (acc : List (Tp3 Int Int Int)) (a : Unit) H' => ∃ B', Stp [] B94 H81 B' H' ∧ H81 Dl = none ∧ Mu K B' H' Dl (acc.map enc) ∧ p_leaves ≠ Dl ∧ p17 ≠ Dl ∧ p60 ≠ Dl) (fun Dl hD => ⟨_, Stp.newM w hD, hD, Mu.new w hD .nil, MuK.ne m_leaves hD, MuT.ne m19 hD, MuT.ne m62 hD⟩) (fun _ _ _ _ j => ?_) ?_ ?_
   ·obtain ⟨B108, s109, hD110, m111, ne115, ne116, ne117⟩ := j
    exact s109.ok.l (s109.ex.l hb97)
   ·rintro Dl99 N100 T101 x102 v103 acc105 a106 H107 ⟨B108, s109, hD110, m111, ne115, ne116, ne117⟩ r104 hz112 kk113 kn114 P
    have wj119 := w
    have sj118 := s109
    have n120 := st.nn hD110
    replace m_leaves := m_leaves.step s109 nm0
    replace m19 := m19.step s109 nm0
    replace m62 := m62.step s109 nm0
    replace st := st.go s109 go0
    replace w := s109.ok
    replace r104 := r104.mono s109.ex
    have r121 : Rep K B108 v103 (enc (⟨x102.1, x102.2⟩ : Tp2 Int Int)) := Rep.prT (a := x102.1) (b := x102.2) r104
    obtain ⟨p122, xs123, rfl, hs124, hr125⟩ := Rep.st w r121
    obtain ⟨u126, u128, rfl, r127, r129⟩ := RepL.open2 hr125
    refine h_tupG hs124 rfl ?_
    refine h_gcons ?_
    refine h_gname ?_
    cases r127
    refine h_gcons ?_
    refine h_gname ?_
    cases r129
    refine h_gnil ?_
    refine h_lcT rfl ?_
    refine h_tup ?_
    refine h_cons (h_var rfl (h_cons (h_var rfl (h_cons (h_dgetE ?_)))))
    refine h_var rfl (h_tup ?_)
    refine h_cons (h_var rfl (h_cons (h_var rfl (h_nil ?_))))
    refine h_newP w (K := K) (a := (⟨x102.1, x102.2⟩ : Tp2 Int Int).a) (b := (⟨x102.1, x102.2⟩ : Tp2 Int Int).b) (fun p130 B131 H132 s133 r134 => ?_)
    replace m_leaves := m_leaves.step s133 nm0
    replace m19 := m19.step s133 nm0
    replace m62 := m62.step s133 nm0
    replace m111 := m111.step s133 nm0
    replace st := st.go s133 go0
    replace sj118 := sj118.go s133 go0
    replace w := s133.ok
    obtain ⟨x135, hx136, P⟩ := P.some
    refine h_dgetT w m62 r134 hx136 (fun u137 r138 => ?_)
    cases r138
    refine h_nil ?_
    refine h_newT w (K := K) (.cons (Rep.int _) (.cons (Rep.int _) (.cons (Rep.int _) .nil))) (fun p139 B140 H141 s142 r143 => ?_) (by show 3 ≤ sizeLine; decide)
    replace m_leaves := m_leaves.step s142 nm0
    replace m19 := m19.step s142 nm0
    replace m62 := m62.step s142 nm0
    replace m111 := m111.step s142 nm0
    replace st := st.go s142 go0
    replace sj118 := sj118.go s142 go0
    replace w := s142.ok
    replace r143 : Rep K B140 (.ref p139) (enc (⟨(⟨x102.1, x102.2⟩ : Tp2 Int Int).a, (⟨x102.1, x102.2⟩ : Tp2 Int Int).b, x135⟩ : (Tp3 Int Int Int))) := r143
    refine h_app (b := (⟨(⟨x102.1, x102.2⟩ : Tp2 Int Int).a, (⟨x102.1, x102.2⟩ : Tp2 Int Int).b, x135⟩ : (Tp3 Int Int Int))) w m111 r143 hz112 (fun H144 s145 m111 => ?_)
    replace m_leaves := m_leaves.step s145 (nm1 ne115)
    replace m19 := m19.step s145 (nm1 ne116)
    replace m62 := m62.step s145 (nm1 ne117)
    replace st := st.go s145 (go1 (.inr n120))
    replace sj118 := sj118.go s145 (go1 (.inr hD110))
    replace w := s145.ok
    exact kk113 (⟨(⟨x102.1, x102.2⟩ : Tp2 Int Int).a, (⟨x102.1, x102.2⟩ : Tp2 Int Int).b, x135⟩ : (Tp3 Int Int Int)) () _ ⟨_, sj118, hD110, m111, ne115, ne116, ne117⟩ P.ok
   ·rintro Dl99 acc105 a106 H107 ⟨B108, s109, hD110, m111, ne115, ne116, ne117⟩ P
    have n146 := st.nn hD110
    replace m_leaves := m_leaves.step s109 nm0
    replace m19 := m19.step s109 nm0
    replace m62 := m62.step s109 nm0
    replace st := st.go s109 go0
    replace w := s109.ok
    replace P := P.un2
    exact P.ok _ _ _ st n146 m111
theorem ok_is_value {f : Addr} {fd : FuncData}  (F : Fun K "is_value" "is_value" s_is_value f fd) (X_is_whole : Cal Pr wo K mg base "is_whole" ["thing", "low", "high"] CX0 1 (sp_is_whole K)) : FnOk Pr wo K mg base CX0 2 f fd ["thing"] (sp_is_value K) := by
 obtain ⟨_, _, g_is_whole, k_is_whole, b_is_whole, G_is_whole⟩ := X_is_whole
 refine F.ok sc_is_value (fun vs H Q E h => ?_) (fun cdv A outer s H0 vs Q E hr h => ?_)
 ·obtain ⟨_, _, _, _, rfl, _⟩ := h; rfl
 ·obtain ⟨B0, v_thing, a_thing, w, rfl, r_thing, P⟩ := h
  have hr1 : Room 1 _ := hr.mono (by decide)
  refine ⟨_, (pss_one (ps_ret (pe_call G_is_whole hr1 rfl g_is_whole k_is_whole b_is_whole .nil pass0 (pa_cons (pv 0) (pa_cons pe_int (pa_cons pe_int pa_nil)))))), ?_⟩
  unfold m_is_value at P
  have st := Stp.refl (W := []) w
  refine h_ret (h_call (h_cons (h_var rfl (h_cons (h_c (h_cons (h_c (h_nil ?_))))))))
  refine ⟨B0, v_thing, a_thing, 0, 255, w, rfl, (r_thing.mono st.ex), (P.bind).mono (fun x1 P => ?_) (fun _ z => z)⟩
  refine fun v5 B2 H3 s4 r6 => ?_
  replace st := st.go s4 go0
  replace w := s4.ok
  cases r6
  exact P.ok _ _ _ st (Rep.bl _)
theorem ok_is_rule {f : Addr} {fd : FuncData}  (F : Fun K "is_rule" "is_rule" s_is_rule f fd) {C_NoRule : Addr} (T_NoRule : ExcR K mg "NoRule" C_NoRule) (p_NoRule_NoRule : PySem.W.subIn K (.ref C_NoRule) (.ref C_NoRule) = some true) (X_rule_of : Cal Pr wo K mg base "rule_of" ["told"] (L2.CX Pr wo) 3 (sp_rule_of K mg)) : FnOk Pr wo K mg base CX0 4 f fd ["thing"] (sp_is_rule K) := by
 obtain ⟨_, _, g_rule_of, k_rule_of, b_rule_of, G_rule_of⟩ := X_rule_of
 refine F.ok sc_is_rule (fun vs H Q E h => ?_) (fun cdv A outer s H0 vs Q E hr h => ?_)
 ·obtain ⟨_, _, _, _, rfl, _⟩ := h; rfl
 ·obtain ⟨B0, v_thing, a_thing, w, rfl, r_thing, P⟩ := h
  have hr3 : Room 3 _ := hr.mono (by decide)
  refine ⟨_, (pss_cons (ps_tryO (K := K) (Wout := fun _ _ _ _ => False) rfl rfl (T_NoRule.names rfl (by decide)) takes0 (fun W pn xe tk _ => (pss_one (ps_expr (pe_callS G_rule_of hr3 rfl g_rule_of k_rule_of b_rule_of (fun σ => passAt tk σ) (pa_cons (pv 0) pa_nil))))) (fun a oe cls d pn hz hf => (pss_one (ps_ret pe_bl))))
   (pss_one (ps_ret pe_bl))), ?_⟩
  unfold m_is_rule at P
  have st := Stp.refl (W := []) w
  refine h_seq ?_
  have wj2 := w
  have sj1 := Stp.refl (W := []) w
  refine h_tryJ P (fun (a : Unit) σ' H' => ∃ (B' : Hp), Stp [] B0 H0 B' H' ∧ σ' = [some (v_thing)]) (fun N3 T4 kk5 kr6 P => ?_) ?_
  ·refine h_tryO ?_
   refine h_drop ?_
   refine h_callS ?_
   refine h_cons (h_var rfl (h_nil ?_))
   refine ⟨B0, v_thing, a_thing, w, rfl, (r_thing.mono st.ex), Post.mono2 P.bind (fun e13 P => ?_) (fun x7 P => ?_)⟩
   ·skip
    rintro C17 dE B14 H15 g s16 hdE
    replace st := st.go s16 go0
    replace sj1 := sj1.go s16 go0
    replace w := s16.ok
    obtain ⟨ec, ea⟩ := e13
    have he := P.guard.1
    replace P := P.guard.2
    obtain rfl : ec = "NoRule" := List.mem_singleton.mp he
    obtain rfl : C_NoRule = C17 := Value.ref.inj (Option.some.inj (T_NoRule.g.symm.trans g))
    obtain rfl := List.isEmpty_iff.mp P.guard.1
    replace P := P.guard.2
    obtain rfl : dE = none := hdE
    refine h_wOnly T_NoRule.toExcT p_NoRule_NoRule (fun ax18 haax18 => ?_)
    refine h_ret (h_c ?_)
    exact (kr6 _ P.ok) _ _ _ st (Rep.bl _)
   refine fun v11 B8 H9 s10 r12 => ?_
   replace st := st.go s10 go0
   replace sj1 := sj1.go s10 go0
   replace w := s10.ok
   refine h_nx ?_
   exact kk5 () _ _ ⟨_, sj1, rfl⟩ P.ok
  ·rintro a19 _ H21 ⟨B20, s22, rfl⟩ P
   replace st := st.go s22 go0
   replace w := s22.ok
   refine h_nx ?_
   refine h_ret (h_c ?_)
   exact P.ok _ _ _ st (Rep.bl _)
theorem ok_is_row_of__is_value {f : Addr} {fd : FuncData}  (F : Fun K "is_row_of" "is_row_of" s_is_row_of__is_value f fd) {f_is_value : Addr} {d_is_value : FuncData} (g_is_value : mg "is_value" = some (.ref f_is_value)) (k_is_value : PySem.W.keepIn K (.ref f_is_value) = true) (b_is_value : L2.Binds K d_is_value ["thing"] []) (G_is_value : FnOk Pr wo K mg base CX0 2 f_is_value d_is_value ["thing"] (sp_is_value K)) (bI_all : mg "all" = none) (bI_isinstance : mg "isinstance" = none) (bI_tuple : mg "tuple" = none) (bI_len : mg "len" = none) : FnOk Pr wo K mg base CX0 3 f fd ["thing", "good"] (sp_is_row_of__is_value K f_is_value) := by
 refine F.ok sc_is_row_of__is_value (fun vs H Q E h => ?_) (fun cdv A outer s H0 vs Q E hr h => ?_)
 ·obtain ⟨_, _, _, _, rfl, _⟩ := h; rfl
 ·obtain ⟨B0, v_thing, a_thing, w, rfl, r_thing, P⟩ := h
  have w0 := w
  have hr2 : Room 2 _ := hr.mono (by decide)
  refine ⟨_, (pss_cons (ps_if (PW.pt (pw_or (pt_not (pt_val (pe_callB (r := rIsi K) call_isi (by rfl) bI_isinstance PyProof.Rows.boot_isinstance (pa_cons (pv 0) (pa_cons (pe_bltn (v := .ty "tuple") (by rfl) bI_tuple Y.boot_tuple rfl) pa_nil))))) (pw_or1 (pt_not (pt_chain op_le op_le pe_int (pe_callB (r := rLenY K) cr_len (by rfl) bI_len PySem.boot_len (pa_cons (pv 0) pa_nil)) pe_int))))) (pss_one (ps_ret pe_bl)) pss_nil)
   (pss_one (ps_ret (pe_callB (r := rAll K) (cr_all rfl) (by rfl) bI_all PyProof.Rows.boot_all (pa_cons (pe_lc (own := [("one", 2)]) rfl sc_is_row_of__is_value.nd (pi_tup (pv 0)) (blkOk_by (N := ["thing", "good", "one"]) (sc := defScope s_is_row_of__is_value) (by decide +kernel)) (fun _ _ _ _ _ => (pg_name (i := 2) sc_is_row_of__is_value.nd rfl (by first | exact Or.inl rfl | exact Or.inr rfl))) (fun _ _ _ _ _ => pts_nil) (fun _ _ _ _ _ => (pe_callLS 1 G_is_value hr2 k_is_value b_is_value .nil (atOf pass0) (pa_cons (pv 2) pa_nil)))) pa_nil))))), ?_⟩
  unfold m_is_row_of__is_value at P
  have st := Stp.refl (W := []) w
  refine h_seq <| h_if ?_
  refine h_tor ?_
  refine h_tnot ?_
  refine h_tB ?_
  refine h_cb (h_cons (h_var rfl (h_cons (h_c (h_nil ?_)))))
  refine isi (t := "tuple") w (r_thing.mono st.ex) ?_
  refine h_bl ?_
  refine h_iteN (fun c1 => ?_) (fun c1 => ?_)
  ·replace P := P.iteF c1
   refine h_iteT ?_
   refine h_ret (h_c ?_)
   exact P.ok _ _ _ st (Rep.bl _)
  ·replace P := P.iteT c1
   refine h_tnot ?_
   refine h_test ?_
   refine h_chain ?_
   refine h_c (h_cb (h_cons (h_var rfl (h_nil ?_))))
   obtain ⟨l1, hl2, P⟩ := P.asT
   have rc3 := (r_thing.mono st.ex)
   rw [hl2] at rc3
   obtain ⟨p4, xs5, rfl, hs6, hr7⟩ := Rep.st w rc3
   refine h_lenTl hs6 hr7 ?_
   refine h_I0 (h_bl ?_)
   refine h_ite (fun c1 => ?_) (fun c1 => ?_)
   ·replace P := P.iteT c1
    refine h_c (h_I0 (h_bl ?_))
    refine h_iteN (fun c1 => ?_) (fun c1 => ?_)
    ·replace P := P.iteF c1
     refine h_ret (h_c ?_)
     exact P.ok _ _ _ st (Rep.bl _)
    ·replace P := P.iteT c1
     refine h_next ?_
     refine h_nx ?_
     refine h_ret (h_cb (h_cons (h_lcUE ?_)))
     refine h_var rfl ?_
     obtain ⟨l8, hl9, P⟩ := P.asT
     have rc10 := (r_thing.mono st.ex)
     rw [hl9] at rc10
     obtain ⟨p11, xs12, hv, hb13, hr14⟩ := Rep.stB rc10
     cases hv
     refine h_lcU P (w.t hb13) hr14 (fun Dl (acc : List Bool) (a : Unit) H' => ∃ B', Stp [] B0 H0 B' H' ∧ H0 Dl = none ∧ Mu K B' H' Dl (acc.map enc)) (fun Dl hD => ⟨_, Stp.newM w hD, hD, Mu.new w hD .nil⟩) (fun _ _ _ _ j => ?_) ?_ ?_
     ·obtain ⟨B24, s25, hD26, m27⟩ := j
      exact s25.ok.t (s25.ex.t hb13)
     ·rintro Dl15 N16 T17 x18 v19 acc21 a22 H23 ⟨B24, s25, hD26, m27⟩ r20 hz28 kk29 kn30 P
      have wj32 := w
      have sj31 := s25
      have n33 := st.nn hD26
      replace st := st.go s25 go0
      replace w := s25.ok
      replace r20 := r20.mono s25.ex
      refine h_gname ?_
      refine h_lcT rfl ?_
      refine h_callLS rfl ?_
      refine h_cons (h_var rfl (h_nil ?_))
      refine ⟨B24, v19, x18, w, rfl, r20, (P.bind).mono (fun x34 P => ?_) (fun _ z => z)⟩
      refine fun v38 B35 H36 s37 r39 => ?_
      replace r20 := r20.mono s37.ex
      replace m27 := m27.step s37 nm0
      replace st := st.go s37 go0
      replace sj31 := sj31.go s37 go0
      replace w := s37.ok
      cases r39
      refine h_app (b := x34) w m27 (Rep.bl _) hz28 (fun H40 s41 m27 => ?_)
      replace r20 := r20.mono s41.ex
      replace st := st.go s41 (go1 (.inr n33))
      replace sj31 := sj31.go s41 (go1 (.inr hD26))
      replace w := s41.ok
      exact kk29 x34 () _ ⟨_, sj31, hD26, m27⟩ P.ok
     ·rintro Dl15 acc21 a22 H23 ⟨B24, s25, hD26, m27⟩ P
      have n42 := st.nn hD26
      replace st := st.go s25 go0
      replace w := s25.ok
      replace P := P.un2
      obtain ⟨B47, e43, k44, g45, r46⟩ := Mu.keep m27
      replace st := g45 _ _ _ st w0 n42
      replace w := st.ok
      replace r46 : Rep K B47 (.ref Dl15) (enc acc21) := r46
      refine h_nil ?_
      obtain ⟨p48, xs49, hv, hs50, hr51⟩ := Rep.sq w r46
      cases hv
      refine h_all hs50 hr51 ?_
      exact P.ok _ _ _ st (Rep.bl _)
   ·replace P := P.iteF c1
    refine h_bl (h_iteNF ?_)
    refine h_ret (h_c ?_)
    exact P.ok _ _ _ st (Rep.bl _)
theorem ok_is_row_of__is_rule {f : Addr} {fd : FuncData}  (F : Fun K "is_row_of" "is_row_of" s_is_row_of__is_rule f fd) {f_is_rule : Addr} {d_is_rule : FuncData} (g_is_rule : mg "is_rule" = some (.ref f_is_rule)) (k_is_rule : PySem.W.keepIn K (.ref f_is_rule) = true) (b_is_rule : L2.Binds K d_is_rule ["thing"] []) (G_is_rule : FnOk Pr wo K mg base CX0 4 f_is_rule d_is_rule ["thing"] (sp_is_rule K)) (bI_all : mg "all" = none) (bI_isinstance : mg "isinstance" = none) (bI_tuple : mg "tuple" = none) (bI_len : mg "len" = none) : FnOk Pr wo K mg base CX0 5 f fd ["thing", "good"] (sp_is_row_of__is_rule K f_is_rule) := by
 refine F.ok sc_is_row_of__is_rule (fun vs H Q E h => ?_) (fun cdv A outer s H0 vs Q E hr h => ?_)
 ·obtain ⟨_, _, _, _, rfl, _⟩ := h; rfl
 ·obtain ⟨B0, v_thing, a_thing, w, rfl, r_thing, P⟩ := h
  have w0 := w
  have hr4 : Room 4 _ := hr.mono (by decide)
  refine ⟨_, (pss_cons (ps_if (PW.pt (pw_or (pt_not (pt_val (pe_callB (r := rIsi K) call_isi (by rfl) bI_isinstance PyProof.Rows.boot_isinstance (pa_cons (pv 0) (pa_cons (pe_bltn (v := .ty "tuple") (by rfl) bI_tuple Y.boot_tuple rfl) pa_nil))))) (pw_or1 (pt_not (pt_chain op_le op_le pe_int (pe_callB (r := rLenY K) cr_len (by rfl) bI_len PySem.boot_len (pa_cons (pv 0) pa_nil)) pe_int))))) (pss_one (ps_ret pe_bl)) pss_nil)
   (pss_one (ps_ret (pe_callB (r := rAll K) (cr_all rfl) (by rfl) bI_all PyProof.Rows.boot_all (pa_cons (pe_lc (own := [("one", 2)]) rfl sc_is_row_of__is_rule.nd (pi_tup (pv 0)) (blkOk_by (N := ["thing", "good", "one"]) (sc := defScope s_is_row_of__is_rule) (by decide +kernel)) (fun _ _ _ _ _ => (pg_name (i := 2) sc_is_row_of__is_rule.nd rfl (by first | exact Or.inl rfl | exact Or.inr rfl))) (fun _ _ _ _ _ => pts_nil) (fun _ _ _ _ _ => (pe_callLS 1 G_is_rule hr4 k_is_rule b_is_rule .nil (atOf pass0) (pa_cons (pv 2) pa_nil)))) pa_nil))))), ?_⟩
  unfold m_is_row_of__is_rule at P
  have st := Stp.refl (W := []) w
  refine h_seq <| h_if ?_
  refine h_tor ?_
  refine h_tnot ?_
  refine h_tB ?_
  refine h_cb (h_cons (h_var rfl (h_cons (h_c (h_nil ?_)))))
  refine isi (t := "tuple") w (r_thing.mono st.ex) ?_
  refine h_bl ?_
  refine h_iteN (fun c1 => ?_) (fun c1 => ?_)
  ·replace P := P.iteF c1
   refine h_iteT ?_
   refine h_ret (h_c ?_)
   exact P.ok _ _ _ st (Rep.bl _)
  ·replace P := P.iteT c1
   refine h_tnot ?_
   refine h_test ?_
   refine h_chain ?_
   refine h_c (h_cb (h_cons (h_var rfl (h_nil ?_))))
   obtain ⟨l1, hl2, P⟩ := P.asT
   have rc3 := (r_thing.mono st.ex)
   rw [hl2] at rc3
   obtain ⟨p4, xs5, rfl, hs6, hr7⟩ := Rep.st w rc3
   refine h_lenTl hs6 hr7 ?_
   refine h_I0 (h_bl ?_)
   refine h_ite (fun c1 => ?_) (fun c1 => ?_)
   ·replace P := P.iteT c1
    refine h_c (h_I0 (h_bl ?_))
    refine h_iteN (fun c1 => ?_) (fun c1 => ?_)
    ·replace P := P.iteF c1
     refine h_ret (h_c ?_)
     exact P.ok _ _ _ st (Rep.bl _)
    ·replace P := P.iteT c1
     refine h_next ?_
     refine h_nx ?_
     refine h_ret (h_cb (h_cons (h_lcUE ?_)))
     refine h_var rfl ?_
     obtain ⟨l8, hl9, P⟩ := P.asT
     have rc10 := (r_thing.mono st.ex)
     rw [hl9] at rc10
     obtain ⟨p11, xs12, hv, hb13, hr14⟩ := Rep.stB rc10
     cases hv
     refine h_lcU P (w.t hb13) hr14 (fun Dl (acc : List Bool) (a : Unit) H' => ∃ B', Stp [] B0 H0 B' H' ∧ H0 Dl = none ∧ Mu K B' H' Dl (acc.map enc)) (fun Dl hD => ⟨_, Stp.newM w hD, hD, Mu.new w hD .nil⟩) (fun _ _ _ _ j => ?_) ?_ ?_
     ·obtain ⟨B24, s25, hD26, m27⟩ := j
      exact s25.ok.t (s25.ex.t hb13)
     ·rintro Dl15 N16 T17 x18 v19 acc21 a22 H23 ⟨B24, s25, hD26, m27⟩ r20 hz28 kk29 kn30 P
      have wj32 := w
      have sj31 := s25
      have n33 := st.nn hD26
      replace st := st.go s25 go0
      replace w := s25.ok
      replace r20 := r20.mono s25.ex
      refine h_gname ?_
      refine h_lcT rfl ?_
      refine h_callLS rfl ?_
      refine h_cons (h_var rfl (h_nil ?_))
      refine ⟨B24, v19, x18, w, rfl, r20, (P.bind).mono (fun x34 P => ?_) (fun _ z => z)⟩
      refine fun v38 B35 H36 s37 r39 => ?_
      replace r20 := r20.mono s37.ex
      replace m27 := m27.step s37 nm0
      replace st := st.go s37 go0
      replace sj31 := sj31.go s37 go0
      replace w := s37.ok
      cases r39
      refine h_app (b := x34) w m27 (Rep.bl _) hz28 (fun H40 s41 m27 => ?_)
      replace r20 := r20.mono s41.ex
      replace st := st.go s41 (go1 (.inr n33))
      replace sj31 := sj31.go s41 (go1 (.inr hD26))
      replace w := s41.ok
      exact kk29 x34 () _ ⟨_, sj31, hD26, m27⟩ P.ok
     ·rintro Dl15 acc21 a22 H23 ⟨B24, s25, hD26, m27⟩ P
      have n42 := st.nn hD26
      replace st := st.go s25 go0
      replace w := s25.ok
      replace P := P.un2
      obtain ⟨B47, e43, k44, g45, r46⟩ := Mu.keep m27
      replace st := g45 _ _ _ st w0 n42
      replace w := st.ok
      replace r46 : Rep K B47 (.ref Dl15) (enc acc21) := r46
      refine h_nil ?_
      obtain ⟨p48, xs49, hv, hs50, hr51⟩ := Rep.sq w r46
      cases hv
      refine h_all hs50 hr51 ?_
      exact P.ok _ _ _ st (Rep.bl _)
   ·replace P := P.iteF c1
    refine h_bl (h_iteNF ?_)
    refine h_ret (h_c ?_)
    exact P.ok _ _ _ st (Rep.bl _)
theorem ok_Leaf____init__ {f : Addr} {fd : FuncData} (F : Fun K "__init__" "Leaf.__init__" s_Leaf____init__ f fd) : FnOk Pr wo K mg base CX0 1 f fd ["self", "begin", "span"] (spInit K ["begin", "span"]) := by
 refine F.ok sc_Leaf____init__ (fun vs H Q E h => ?_) (fun cdv A outer s H vs Q E hr h => ?_)
 ·obtain ⟨_, _, _, us, rfl, hl, _⟩ := h
  exact congrArg Nat.succ hl
 ·obtain ⟨C, p, dx, us, rfl, hl, hp, hc, lo, k⟩ := h
  match us, hl with
  | [u1, u2], _ =>
   refine ⟨_, (pss_cons (ps_fld (pv 0) (pv 1) rfl) (pss_one (ps_fld (pv 0) (pv 2) rfl))), ?_⟩
   have e1 : putF "begin" u1 ([] : List (Str × V)) = ([("begin", u1)] : List (Str × V)) := putE
   have h1 : (upd H p (HO.ins C dx (putF "begin" u1 ([] : List (Str × V))))) p = some (HO.ins C dx ([("begin", u1)] : List (Str × V))) := by rw [e1]; exact upd_same
   have e2 : putF "span" u2 ([("begin", u1)] : List (Str × V)) = ([("begin", u1), ("span", u2)] : List (Str × V)) := (putS (by decide +kernel) putE)
   have eH : (upd (upd H p (HO.ins C dx (putF "begin" u1 ([] : List (Str × V))))) p (HO.ins C dx (putF "span" u2 ([("begin", u1)] : List (Str × V))))) = upd H p (HO.ins C dx ([("begin", u1), ("span", u2)] : List (Str × V))) := by rw [e1, e2, L2.upd_upd]
   have k2 : Q .non (upd H p (HO.ins C dx ([("begin", u1), ("span", u2)] : List (Str × V)))) := k
   rw [← eH] at k2
   exact ⟨_, rfl, _, rfl, p, C, dx, ([] : List (Str × V)), rfl, hp, hc, lo.1, (by show 0 < 1000; decide), _, rfl, _, rfl, p, C, dx, ([("begin", u1)] : List (Str × V)), rfl, h1, hc, lo.2.1, (by show 1 < 1000; decide), k2⟩
theorem ok_Full____init__ {f : Addr} {fd : FuncData} (F : Fun K "__init__" "Full.__init__" s_Full____init__ f fd) {C_Leaf fi_Leaf : Addr} {di_Leaf : FuncData} {mc_Leaf : Value} (T_Leaf : KI K mg "Leaf" C_Leaf) (r_Leaf : ClX.CRead K C_Leaf mc_Leaf) (cv_Leaf : ClX.CVal K C_Leaf mc_Leaf "__init__" (.ref fi_Leaf) (.ref fi_Leaf)) (ki_Leaf : PySem.W.keepIn K (.ref fi_Leaf) = true) (bi_Leaf : L2.Binds K di_Leaf ["self", "begin", "span"] []) (Gi_Leaf : FnOk Pr wo K mg base CX0 1 fi_Leaf di_Leaf ["self", "begin", "span"] (spInit K ["begin", "span"])) : FnOk Pr wo K mg base CX0 2 f fd ["self", "begin", "span", "values"] (spInit K ["begin", "span", "worths"]) := by
 refine F.ok sc_Full____init__ (fun vs H Q E h => ?_) (fun cdv A outer s H vs Q E hr h => ?_)
 ·obtain ⟨_, _, _, us, rfl, hl, _⟩ := h
  exact congrArg Nat.succ hl
 ·obtain ⟨C, p, dx, us, rfl, hl, hp, hc, lo, k⟩ := h
  match us, hl with
  | [u1, u2, u3], _ =>
   refine ⟨_, (pss_cons (ps_expr (pe_clsf (pe_glob (v := .ref C_Leaf) (by rfl) T_Leaf.g rfl) r_Leaf cv_Leaf Gi_Leaf ki_Leaf (hr.mono (by decide)) bi_Leaf .nil pass0 (pa_cons (pv 0) (pa_cons (pv 1) (pa_cons (pv 2) pa_nil))))) (pss_one (ps_fld (pv 0) (pv 3) rfl))), ?_⟩
   have h2 : (upd H p (HO.ins C dx ([("begin", u1), ("span", u2)] : List (Str × V)))) p = some (HO.ins C dx ([("begin", u1), ("span", u2)] : List (Str × V))) := upd_same
   have e3 : putF "worths" u3 ([("begin", u1), ("span", u2)] : List (Str × V)) = ([("begin", u1), ("span", u2), ("worths", u3)] : List (Str × V)) := (putS (by decide +kernel) (putS (by decide +kernel) putE))
   have eH : (upd (upd H p (HO.ins C dx ([("begin", u1), ("span", u2)] : List (Str × V)))) p (HO.ins C dx (putF "worths" u3 ([("begin", u1), ("span", u2)] : List (Str × V))))) = upd H p (HO.ins C dx ([("begin", u1), ("span", u2), ("worths", u3)] : List (Str × V))) := by rw [e3, L2.upd_upd]
   have k2 : Q .non (upd H p (HO.ins C dx ([("begin", u1), ("span", u2), ("worths", u3)] : List (Str × V)))) := k
   rw [← eH] at k2
   exact ⟨rfl, _, rfl, _, rfl, _, rfl, C, p, dx, [u1, u2], rfl, rfl, hp, hc, ⟨lo.1, ⟨lo.2.1, trivial⟩⟩, _, rfl, _, rfl, p, C, dx, ([("begin", u1), ("span", u2)] : List (Str × V)), rfl, h2, hc, lo.2.2.1, (by show 2 < 1000; decide), k2⟩
theorem ok_Still____init__ {f : Addr} {fd : FuncData} (F : Fun K "__init__" "Still.__init__" s_Still____init__ f fd) {C_Leaf fi_Leaf : Addr} {di_Leaf : FuncData} {mc_Leaf : Value} (T_Leaf : KI K mg "Leaf" C_Leaf) (r_Leaf : ClX.CRead K C_Leaf mc_Leaf) (cv_Leaf : ClX.CVal K C_Leaf mc_Leaf "__init__" (.ref fi_Leaf) (.ref fi_Leaf)) (ki_Leaf : PySem.W.keepIn K (.ref fi_Leaf) = true) (bi_Leaf : L2.Binds K di_Leaf ["self", "begin", "span"] []) (Gi_Leaf : FnOk Pr wo K mg base CX0 1 fi_Leaf di_Leaf ["self", "begin", "span"] (spInit K ["begin", "span"])) : FnOk Pr wo K mg base CX0 2 f fd ["self", "begin", "span", "back"] (spInit K ["begin", "span", "back"]) := by
 refine F.ok sc_Still____init__ (fun vs H Q E h => ?_) (fun cdv A outer s H vs Q E hr h => ?_)
 ·obtain ⟨_, _, _, us, rfl, hl, _⟩ := h
  exact congrArg Nat.succ hl
 ·obtain ⟨C, p, dx, us, rfl, hl, hp, hc, lo, k⟩ := h
  match us, hl with
  | [u1, u2, u3], _ =>
   refine ⟨_, (pss_cons (ps_expr (pe_clsf (pe_glob (v := .ref C_Leaf) (by rfl) T_Leaf.g rfl) r_Leaf cv_Leaf Gi_Leaf ki_Leaf (hr.mono (by decide)) bi_Leaf .nil pass0 (pa_cons (pv 0) (pa_cons (pv 1) (pa_cons (pv 2) pa_nil))))) (pss_one (ps_fld (pv 0) (pv 3) rfl))), ?_⟩
   have h2 : (upd H p (HO.ins C dx ([("begin", u1), ("span", u2)] : List (Str × V)))) p = some (HO.ins C dx ([("begin", u1), ("span", u2)] : List (Str × V))) := upd_same
   have e3 : putF "back" u3 ([("begin", u1), ("span", u2)] : List (Str × V)) = ([("begin", u1), ("span", u2), ("back", u3)] : List (Str × V)) := (putS (by decide +kernel) (putS (by decide +kernel) putE))
   have eH : (upd (upd H p (HO.ins C dx ([("begin", u1), ("span", u2)] : List (Str × V)))) p (HO.ins C dx (putF "back" u3 ([("begin", u1), ("span", u2)] : List (Str × V))))) = upd H p (HO.ins C dx ([("begin", u1), ("span", u2), ("back", u3)] : List (Str × V))) := by rw [e3, L2.upd_upd]
   have k2 : Q .non (upd H p (HO.ins C dx ([("begin", u1), ("span", u2), ("back", u3)] : List (Str × V)))) := k
   rw [← eH] at k2
   exact ⟨rfl, _, rfl, _, rfl, _, rfl, C, p, dx, [u1, u2], rfl, rfl, hp, hc, ⟨lo.1, ⟨lo.2.1, trivial⟩⟩, _, rfl, _, rfl, p, C, dx, ([("begin", u1), ("span", u2)] : List (Str × V)), rfl, h2, hc, lo.2.2.1, (by show 2 < 1000; decide), k2⟩
theorem ok_Woven____init__ {f : Addr} {fd : FuncData} (F : Fun K "__init__" "Woven.__init__" s_Woven____init__ f fd) {C_Leaf fi_Leaf : Addr} {di_Leaf : FuncData} {mc_Leaf : Value} (T_Leaf : KI K mg "Leaf" C_Leaf) (r_Leaf : ClX.CRead K C_Leaf mc_Leaf) (cv_Leaf : ClX.CVal K C_Leaf mc_Leaf "__init__" (.ref fi_Leaf) (.ref fi_Leaf)) (ki_Leaf : PySem.W.keepIn K (.ref fi_Leaf) = true) (bi_Leaf : L2.Binds K di_Leaf ["self", "begin", "span"] []) (Gi_Leaf : FnOk Pr wo K mg base CX0 1 fi_Leaf di_Leaf ["self", "begin", "span"] (spInit K ["begin", "span"])) : FnOk Pr wo K mg base CX0 2 f fd ["self", "begin", "span", "rules"] (spInit K ["begin", "span", "rules"]) := by
 refine F.ok sc_Woven____init__ (fun vs H Q E h => ?_) (fun cdv A outer s H vs Q E hr h => ?_)
 ·obtain ⟨_, _, _, us, rfl, hl, _⟩ := h
  exact congrArg Nat.succ hl
 ·obtain ⟨C, p, dx, us, rfl, hl, hp, hc, lo, k⟩ := h
  match us, hl with
  | [u1, u2, u3], _ =>
   refine ⟨_, (pss_cons (ps_expr (pe_clsf (pe_glob (v := .ref C_Leaf) (by rfl) T_Leaf.g rfl) r_Leaf cv_Leaf Gi_Leaf ki_Leaf (hr.mono (by decide)) bi_Leaf .nil pass0 (pa_cons (pv 0) (pa_cons (pv 1) (pa_cons (pv 2) pa_nil))))) (pss_one (ps_fld (pv 0) (pv 3) rfl))), ?_⟩
   have h2 : (upd H p (HO.ins C dx ([("begin", u1), ("span", u2)] : List (Str × V)))) p = some (HO.ins C dx ([("begin", u1), ("span", u2)] : List (Str × V))) := upd_same
   have e3 : putF "rules" u3 ([("begin", u1), ("span", u2)] : List (Str × V)) = ([("begin", u1), ("span", u2), ("rules", u3)] : List (Str × V)) := (putS (by decide +kernel) (putS (by decide +kernel) putE))
   have eH : (upd (upd H p (HO.ins C dx ([("begin", u1), ("span", u2)] : List (Str × V)))) p (HO.ins C dx (putF "rules" u3 ([("begin", u1), ("span", u2)] : List (Str × V))))) = upd H p (HO.ins C dx ([("begin", u1), ("span", u2), ("rules", u3)] : List (Str × V))) := by rw [e3, L2.upd_upd]
   have k2 : Q .non (upd H p (HO.ins C dx ([("begin", u1), ("span", u2), ("rules", u3)] : List (Str × V)))) := k
   rw [← eH] at k2
   exact ⟨rfl, _, rfl, _, rfl, _, rfl, C, p, dx, [u1, u2], rfl, rfl, hp, hc, ⟨lo.1, ⟨lo.2.1, trivial⟩⟩, _, rfl, _, rfl, p, C, dx, ([("begin", u1), ("span", u2)] : List (Str × V)), rfl, h2, hc, lo.2.2.1, (by show 2 < 1000; decide), k2⟩
theorem ok_leaf_of {f : Addr} {fd : FuncData}  (F : Fun K "leaf_of" "leaf_of" s_leaf_of f fd) {C_NoLeaf : Addr} (T_NoLeaf : ExcR K mg "NoLeaf" C_NoLeaf) {C_Full : Addr} (T_Full : KI K mg "Full" C_Full) {C_Still : Addr} (T_Still : KI K mg "Still" C_Still) {C_Woven : Addr} (T_Woven : KI K mg "Woven" C_Woven) {fi_Full : Addr} {di_Full : FuncData} (M_Full : Mk K C_Full fi_Full) (lo_Full : LaysOk K C_Full ["begin", "span", "worths"]) (bi_Full : L2.Binds K di_Full ["self", "begin", "span", "values"] []) (Gi_Full : FnOk Pr wo K mg base CX0 2 fi_Full di_Full ["self", "begin", "span", "values"] (spInit K ["begin", "span", "worths"])) {fi_Still : Addr} {di_Still : FuncData} (M_Still : Mk K C_Still fi_Still) (lo_Still : LaysOk K C_Still ["begin", "span", "back"]) (bi_Still : L2.Binds K di_Still ["self", "begin", "span", "back"] []) (Gi_Still : FnOk Pr wo K mg base CX0 2 fi_Still di_Still ["self", "begin", "span", "back"] (spInit K ["begin", "span", "back"])) {fi_Woven : Addr} {di_Woven : FuncData} (M_Woven : Mk K C_Woven fi_Woven) (lo_Woven : LaysOk K C_Woven ["begin", "span", "rules"]) (bi_Woven : L2.Binds K di_Woven ["self", "begin", "span", "rules"] []) (Gi_Woven : FnOk Pr wo K mg base CX0 2 fi_Woven di_Woven ["self", "begin", "span", "rules"] (spInit K ["begin", "span", "rules"])) {f_is_value : Addr} {d_is_value : FuncData} (g_is_value : mg "is_value" = some (.ref f_is_value)) (k_is_value : PySem.W.keepIn K (.ref f_is_value) = true) (b_is_value : L2.Binds K d_is_value ["thing"] []) (G_is_value : FnOk Pr wo K mg base CX0 2 f_is_value d_is_value ["thing"] (sp_is_value K)) (X_is_whole : Cal Pr wo K mg base "is_whole" ["thing", "low", "high"] CX0 1 (sp_is_whole K)) {f_is_rule : Addr} {d_is_rule : FuncData} (g_is_rule : mg "is_rule" = some (.ref f_is_rule)) (k_is_rule : PySem.W.keepIn K (.ref f_is_rule) = true) (b_is_rule : L2.Binds K d_is_rule ["thing"] []) (G_is_rule : FnOk Pr wo K mg base CX0 4 f_is_rule d_is_rule ["thing"] (sp_is_rule K)) (X_is_row_of__is_value : Cal Pr wo K mg base "is_row_of" ["thing", "good"] CX0 3 (sp_is_row_of__is_value K f_is_value)) (X_is_row_of__is_rule : Cal Pr wo K mg base "is_row_of" ["thing", "good"] CX0 5 (sp_is_row_of__is_rule K f_is_rule)) (bI_isinstance : mg "isinstance" = none) (bI_tuple : mg "tuple" = none) (bI_len : mg "len" = none) (kb_Full____init___2_values : KBinds K di_Full ["self", "begin", "span", "values"] ["values"] (fun us ws => match us, ws with | [u0, u1, u2], [w0] => [u0, u1, u2, w0] | _, _ => []) (fun us ws => match us, ws with | [u0, u1, u2], [w0] => [u0, u1, u2, w0] | _, _ => [])) (kb_Still____init___2_back : KBinds K di_Still ["self", "begin", "span", "back"] ["back"] (fun us ws => match us, ws with | [u0, u1, u2], [w0] => [u0, u1, u2, w0] | _, _ => []) (fun us ws => match us, ws with | [u0, u1, u2], [w0] => [u0, u1, u2, w0] | _, _ => [])) (kb_Woven____init___2_rules : KBinds K di_Woven ["self", "begin", "span", "rules"] ["rules"] (fun us ws => match us, ws with | [u0, u1, u2], [w0] => [u0, u1, u2, w0] | _, _ => []) (fun us ws => match us, ws with | [u0, u1, u2], [w0] => [u0, u1, u2, w0] | _, _ => [])) : FnOk Pr wo K mg base (L2.CX Pr wo) 6 f fd ["told"] (sp_leaf_of K mg) := by
 obtain ⟨_, _, g_is_whole, k_is_whole, b_is_whole, G_is_whole⟩ := X_is_whole
 obtain ⟨_, _, g_is_row_of__is_value, k_is_row_of__is_value, b_is_row_of__is_value, G_is_row_of__is_value⟩ := X_is_row_of__is_value
 obtain ⟨_, _, g_is_row_of__is_rule, k_is_row_of__is_rule, b_is_row_of__is_rule, G_is_row_of__is_rule⟩ := X_is_row_of__is_rule
 refine F.okX sc_leaf_of (fun vs H Q E h => ?_) (fun cdv A outer s H0 vs Q E hr h => ?_)
 ·obtain ⟨_, _, _, _, rfl, _⟩ := h; rfl
 ·obtain ⟨B0, v_told, a_told, w, rfl, r_told, P⟩ := h
  have hu64 := hu64_of hr
  have hr1 : Room 1 _ := hr.mono (by decide)
  have hr2 : Room 2 _ := hr.mono (by decide)
  have hr3 : Room 3 _ := hr.mono (by decide)
  have hr4 : Room 4 _ := hr.mono (by decide)
  have hr5 : Room 5 _ := hr.mono (by decide)
  refine ⟨_, (pss_cons (ps_if (PW.pt (pw_or (pt_not (pt_val (pe_callB (r := rIsi K) call_isi (by rfl) bI_isinstance PyProof.Rows.boot_isinstance (pa_cons (pv 0) (pa_cons (pe_bltn (v := .ty "tuple") (by rfl) bI_tuple Y.boot_tuple rfl) pa_nil))))) (pw_or1 (pt_cmpR op_ne (pe_callB (r := rLenY K) cr_len (by rfl) bI_len PySem.boot_len (pa_cons (pv 0) pa_nil)) pe_int (nomark _))))) (pss_one (ps_raise rfl (takes_of rfl rfl rfl rfl) (pmk_own PySem.F.excBase_ValueError T_NoLeaf.ex T_NoLeaf.g T_NoLeaf.kp (raises_own T_NoLeaf.ec.hs T_NoLeaf.ty) rfl))) pss_nil)
   (pss_cons (ps_asg (pv 0) (pg_tupK (K := K) (n := 4) rfl rfl (pgs_cons (pg_name (i := 1) sc_leaf_of.nd rfl (.inl rfl)) (pgs_cons (pg_name (i := 2) sc_leaf_of.nd rfl (.inl rfl)) (pgs_cons (pg_name (i := 3) sc_leaf_of.nd rfl (.inl rfl)) (pgs_cons (pg_name (i := 4) sc_leaf_of.nd rfl (.inl rfl)) pgs_nil))))))
   (pss_cons (ps_if (PW.pt (pw_or (pt_not (pt_val (pe_call G_is_whole hr1 rfl g_is_whole k_is_whole b_is_whole .nil pass0 (pa_cons (pv 2) (pa_cons pe_int (pa_cons (pe_op op_pow pe_int pe_int) pa_nil)))))) (pw_or1 (pt_not (pt_val (pe_call G_is_whole hr1 rfl g_is_whole k_is_whole b_is_whole .nil pass0 (pa_cons (pv 3) (pa_cons pe_int (pa_cons (pe_op op_pow pe_int pe_int) pa_nil))))))))) (pss_one (ps_raise rfl (takes_of rfl rfl rfl rfl) (pmk_own PySem.F.excBase_ValueError T_NoLeaf.ex T_NoLeaf.g T_NoLeaf.kp (raises_own T_NoLeaf.ec.hs T_NoLeaf.ty) rfl))) pss_nil)
   (pss_cons (ps_if (PW.pt (pw_and (pt_cmpR (r := rEqD K) (op_eqD hu64) (pv 1) pe_str (nomark _)) (pw_and1 (pt_val (pe_call G_is_row_of__is_value hr3 rfl g_is_row_of__is_value k_is_row_of__is_value b_is_row_of__is_value .nil pass0 (pa_cons (pv 4) (pa_cons (pe_glob (v := .ref f_is_value) (by rfl) g_is_value rfl) pa_nil))))))) (pss_one (ps_ret (pe_makeB M_Full Gi_Full hr3 rfl T_Full.g kb_Full____init___2_values pass0 (pa_cons (pv 2) (pa_cons (pv 3) pa_nil)) (pk_cons (pv 4) pk_nil)))) pss_nil)
   (pss_cons (ps_if (PW.pt (pw_and (pt_cmpR (r := rEqD K) (op_eqD hu64) (pv 1) pe_str (nomark _)) (pw_and1 (pt_val (pe_call G_is_whole hr1 rfl g_is_whole k_is_whole b_is_whole .nil pass0 (pa_cons (pv 4) (pa_cons pe_int (pa_cons pe_int pa_nil)))))))) (pss_one (ps_ret (pe_makeB M_Still Gi_Still hr3 rfl T_Still.g kb_Still____init___2_back pass0 (pa_cons (pv 2) (pa_cons (pv 3) pa_nil)) (pk_cons (pv 4) pk_nil)))) pss_nil)
   (pss_cons (ps_if (PW.pt (pw_and (pt_cmpR (r := rEqD K) (op_eqD hu64) (pv 1) pe_str (nomark _)) (pw_and1 (pt_val (pe_call G_is_row_of__is_rule hr5 rfl g_is_row_of__is_rule k_is_row_of__is_rule b_is_row_of__is_rule .nil pass0 (pa_cons (pv 4) (pa_cons (pe_glob (v := .ref f_is_rule) (by rfl) g_is_rule rfl) pa_nil))))))) (pss_one (ps_ret (pe_makeB M_Woven Gi_Woven hr3 rfl T_Woven.g kb_Woven____init___2_rules pass0 (pa_cons (pv 2) (pa_cons (pv 3) pa_nil)) (pk_cons (pv 4) pk_nil)))) pss_nil)
   (pss_one (ps_raise rfl (takes_of rfl rfl rfl rfl) (pmk_own PySem.F.excBase_ValueError T_NoLeaf.ex T_NoLeaf.g T_NoLeaf.kp (raises_own T_NoLeaf.ec.hs T_NoLeaf.ty) rfl))))))))), ?_⟩
  unfold m_leaf_of at P
  have st := Stp.refl (W := []) w
  refine h_seq <| h_if ?_
  refine h_tor ?_
  refine h_tnot ?_
  refine h_tB ?_
  refine h_cb (h_cons (h_var rfl (h_cons (h_c (h_nil ?_)))))
  refine isi (t := "tuple") w (r_told.mono st.ex) ?_
  refine h_bl ?_
  refine h_iteN (fun c1 => ?_) (fun c1 => ?_)
  ·replace P := P.iteF c1
   refine h_iteT ?_
   exact P.err _ none _ _ T_NoLeaf.g st rfl
  ·replace P := P.iteT c1
   refine h_test ?_
   refine h_op (h_cb (h_cons (h_var rfl (h_nil ?_))))
   obtain ⟨l1, hl2, P⟩ := P.asT
   have rc3 := (r_told.mono st.ex)
   rw [hl2] at rc3
   obtain ⟨p4, xs5, rfl, hs6, hr7⟩ := Rep.st w rc3
   refine h_lenTl hs6 hr7 ?_
   refine h_c (h_neI ?_)
   refine h_bl ?_
   refine h_ite (fun c1 => ?_) (fun c1 => ?_)
   ·replace P := P.iteT c1
    exact P.err _ none _ _ T_NoLeaf.g st rfl
   ·replace P := P.iteF c1
    refine h_next ?_
    refine h_nx ?_
    refine h_seq (h_asg ?_)
    refine h_var rfl ?_
    obtain ⟨l8, hl9, P⟩ := P.asT
    have rc10 := (r_told.mono st.ex)
    rw [hl9] at rc10
    obtain ⟨p11, xs12, hv, hs13, hr14⟩ := Rep.st w rc10
    cases hv
    obtain ⟨gd, P⟩ := P.guard
    refine h_tupG hs13 (by rw [hr14.length, List.length_map]; exact gd) ?_
    obtain ⟨x16, hx17, P⟩ := P.ix
    obtain ⟨u18, huu18, r19⟩ := RepL.atE hr14 hx17
    obtain ⟨x20, hx21, P⟩ := P.ix
    obtain ⟨u22, huu22, r23⟩ := RepL.atE hr14 hx21
    obtain ⟨x24, hx25, P⟩ := P.ix
    obtain ⟨u26, huu26, r27⟩ := RepL.atE hr14 hx25
    obtain ⟨x28, hx29, P⟩ := P.ix
    obtain ⟨u30, huu30, r31⟩ := RepL.atE hr14 hx29
    obtain rfl : xs12 = [u18, u22, u26, u30] := tup4 (by rw [hr14.length, List.length_map]; exact gd) huu18 huu22 huu26 huu30
    refine h_gcons ?_
    refine h_gname ?_
    refine h_gcons ?_
    refine h_gname ?_
    refine h_gcons ?_
    refine h_gname ?_
    refine h_gcons ?_
    refine h_gname ?_
    refine h_gnil ?_
    refine h_nx ?_
    refine h_seq <| h_if ?_
    refine h_tor ?_
    refine h_tnot ?_
    refine h_tB ?_
    refine h_call (h_cons (h_var rfl (h_cons (h_c (h_cons ?_)))))
    refine h_op (h_c (h_c (h_pow (k := 1000000000) (by decide +kernel) (by decide +kernel) ?_)))
    refine h_nil ?_
    refine ⟨B0, u22, x20, 0, 1000000000, w, rfl, r23, (P.bind.noErr).mono (fun x32 P => ?_) (fun _ z => z.elim)⟩
    refine fun v36 B33 H34 s35 r37 => ?_
    replace r19 := r19.mono s35.ex
    replace r23 := r23.mono s35.ex
    replace r27 := r27.mono s35.ex
    replace r31 := r31.mono s35.ex
    replace st := st.go s35 go0
    replace w := s35.ok
    cases r37
    refine h_bl ?_
    refine h_iteN (fun c1 => ?_) (fun c1 => ?_)
    ·replace P := P.iteF c1
     refine h_iteT ?_
     exact P.err _ none _ _ T_NoLeaf.g st rfl
    ·replace P := P.iteT c1
     refine h_tnot ?_
     refine h_tB ?_
     refine h_call (h_cons (h_var rfl (h_cons (h_c (h_cons ?_)))))
     refine h_op (h_c (h_c (h_pow (k := 1000000000) (by decide +kernel) (by decide +kernel) ?_)))
     refine h_nil ?_
     refine ⟨B33, u26, x24, 1, 1000000000, w, rfl, r27, (P.bind.noErr).mono (fun x38 P => ?_) (fun _ z => z.elim)⟩
     refine fun v42 B39 H40 s41 r43 => ?_
     replace r19 := r19.mono s41.ex
     replace r23 := r23.mono s41.ex
     replace r27 := r27.mono s41.ex
     replace r31 := r31.mono s41.ex
     replace st := st.go s41 go0
     replace w := s41.ok
     cases r43
     refine h_bl ?_
     refine h_iteN (fun c1 => ?_) (fun c1 => ?_)
     ·replace P := P.iteF c1
      exact P.err _ none _ _ T_NoLeaf.g st rfl
     ·replace P := P.iteT c1
      refine h_next ?_
      refine h_nx ?_
      refine h_seq <| h_if ?_
      have wj45 := w
      have sj44 := Stp.refl (W := []) w
      refine h_condJ P (fun H' => ∃ B', Stp [] B39 H40 B' H') (fun N kk46 P => ?_) ?_
      ·skip
       refine h_tand ?_
       refine h_test ?_
       refine h_op (h_var rfl (h_c ?_))
       obtain ⟨gd, P⟩ := P.guard
       refine h_eqD (d := x16) (e := (enc ("full" : Str))) w r19 (Rep.str _) gd ?_
       refine h_bl ?_
       refine h_ite (fun c1 => ?_) (fun c1 => ?_)
       ·replace P := P.iteT c1
        refine h_tB ?_
        refine h_call (h_cons (h_var rfl (h_cons (h_c (h_nil ?_)))))
        refine ⟨B39, u30, x28, w, rfl, r31, (P.bind.noErr).mono (fun x47 P => ?_) (fun _ z => z.elim)⟩
        refine fun v51 B48 H49 s50 r52 => ?_
        replace r19 := r19.mono s50.ex
        replace r23 := r23.mono s50.ex
        replace r27 := r27.mono s50.ex
        replace r31 := r31.mono s50.ex
        replace st := st.go s50 go0
        replace sj44 := sj44.go s50 go0
        replace w := s50.ok
        cases r52
        refine h_bl ?_
        exact kk46 _ _ ⟨_, sj44⟩ P.ok
       ·replace P := P.iteF c1
        exact kk46 _ _ ⟨_, sj44⟩ P.ok
      rintro b53 H55 ⟨B54, s56⟩ P
      replace r19 := r19.mono s56.ex
      replace r23 := r23.mono s56.ex
      replace r27 := r27.mono s56.ex
      replace r31 := r31.mono s56.ex
      replace st := st.go s56 go0
      replace w := s56.ok
      refine h_ite (fun c1 => ?_) (fun c1 => ?_)
      ·replace P := P.iteT c1
       refine h_ret (h_makeBE ?_)
       refine h_cons (h_var rfl (h_cons (h_var rfl (h_nil (h_cons (h_var rfl (h_nil ?_)))))))
       obtain ⟨i57, hi58, P⟩ := P.asI
       have rc59 := r23
       rw [hi58] at rc59
       cases rc59
       obtain ⟨i60, hi61, P⟩ := P.asI
       have rc62 := r27
       rw [hi61] at rc62
       cases rc62
       refine h_make (us := [.int i57, .int i60, u30]) (ns := ["begin", "span", "worths"]) rfl w T_Full.toKC lo_Full (ds := [("begin", enc (i57 : Int)), ("span", enc (i60 : Int)), ("worths", enc (x28 : D))]) (.cons (Rep.int _) (.cons (Rep.int _) (.cons r31 .nil))) (fun p63 B64 H65 s66 r67 => ?_)
       replace r19 := r19.mono s66.ex
       replace r23 := r23.mono s66.ex
       replace r27 := r27.mono s66.ex
       replace r31 := r31.mono s66.ex
       replace st := st.go s66 go0
       replace w := s66.ok
       replace r67 : Rep K B64 (.ref p63) (enc (K_Leaf.Full i57 i60 x28)) := r67
       exact P.ok _ _ _ st r67
      ·replace P := P.iteF c1
       refine h_next ?_
       refine h_nx ?_
       refine h_seq <| h_if ?_
       have wj69 := w
       have sj68 := Stp.refl (W := []) w
       refine h_condJ P (fun H' => ∃ B', Stp [] B54 H55 B' H') (fun N kk70 P => ?_) ?_
       ·skip
        refine h_tand ?_
        refine h_test ?_
        refine h_op (h_var rfl (h_c ?_))
        obtain ⟨gd, P⟩ := P.guard
        refine h_eqD (d := x16) (e := (enc ("still" : Str))) w r19 (Rep.str _) gd ?_
        refine h_bl ?_
        refine h_ite (fun c1 => ?_) (fun c1 => ?_)
        ·replace P := P.iteT c1
         refine h_tB ?_
         refine h_call (h_cons (h_var rfl (h_cons (h_c (h_cons (h_c (h_nil ?_)))))))
         refine ⟨B54, u30, x28, 1, 200, w, rfl, r31, (P.bind.noErr).mono (fun x71 P => ?_) (fun _ z => z.elim)⟩
         refine fun v75 B72 H73 s74 r76 => ?_
         replace r19 := r19.mono s74.ex
         replace r23 := r23.mono s74.ex
         replace r27 := r27.mono s74.ex
         replace r31 := r31.mono s74.ex
         replace st := st.go s74 go0
         replace sj68 := sj68.go s74 go0
         replace w := s74.ok
         cases r76
         refine h_bl ?_
         exact kk70 _ _ ⟨_, sj68⟩ P.ok
        ·replace P := P.iteF c1
         exact kk70 _ _ ⟨_, sj68⟩ P.ok
       rintro b77 H79 ⟨B78, s80⟩ P
       replace r19 := r19.mono s80.ex
       replace r23 := r23.mono s80.ex
       replace r27 := r27.mono s80.ex
       replace r31 := r31.mono s80.ex
       replace st := st.go s80 go0
       replace w := s80.ok
       refine h_ite (fun c1 => ?_) (fun c1 => ?_)
       ·replace P := P.iteT c1
        refine h_ret (h_makeBE ?_)
        refine h_cons (h_var rfl (h_cons (h_var rfl (h_nil (h_cons (h_var rfl (h_nil ?_)))))))
        obtain ⟨i81, hi82, P⟩ := P.asI
        have rc83 := r23
        rw [hi82] at rc83
        cases rc83
        obtain ⟨i84, hi85, P⟩ := P.asI
        have rc86 := r27
        rw [hi85] at rc86
        cases rc86
        obtain ⟨i87, hi88, P⟩ := P.asI
        have rc89 := r31
        rw [hi88] at rc89
        cases rc89
        refine h_make (us := [.int i81, .int i84, .int i87]) (ns := ["begin", "span", "back"]) rfl w T_Still.toKC lo_Still (ds := [("begin", enc (i81 : Int)), ("span", enc (i84 : Int)), ("back", enc (i87 : Int))]) (.cons (Rep.int _) (.cons (Rep.int _) (.cons (Rep.int _) .nil))) (fun p90 B91 H92 s93 r94 => ?_)
        replace r19 := r19.mono s93.ex
        replace r23 := r23.mono s93.ex
        replace r27 := r27.mono s93.ex
        replace r31 := r31.mono s93.ex
        replace st := st.go s93 go0
        replace w := s93.ok
        replace r94 : Rep K B91 (.ref p90) (enc (K_Leaf.Still i81 i84 i87)) := r94
        exact P.ok _ _ _ st r94
       ·replace P := P.iteF c1
        refine h_next ?_
        refine h_nx ?_
        refine h_seq <| h_if ?_
        have wj96 := w
        have sj95 := Stp.refl (W := []) w
        refine h_condJ P (fun H' => ∃ B', Stp [] B78 H79 B' H') (fun N kk97 P => ?_) ?_
        ·skip
         refine h_tand ?_
         refine h_test ?_
         refine h_op (h_var rfl (h_c ?_))
         obtain ⟨gd, P⟩ := P.guard
         refine h_eqD (d := x16) (e := (enc ("woven" : Str))) w r19 (Rep.str _) gd ?_
         refine h_bl ?_
         refine h_ite (fun c1 => ?_) (fun c1 => ?_)
         ·replace P := P.iteT c1
          refine h_tB ?_
          refine h_call (h_cons (h_var rfl (h_cons (h_c (h_nil ?_)))))
          refine ⟨B78, u30, x28, w, rfl, r31, (P.bind.noErr).mono (fun x98 P => ?_) (fun _ z => z.elim)⟩
          refine fun v102 B99 H100 s101 r103 => ?_
          replace r19 := r19.mono s101.ex
          replace r23 := r23.mono s101.ex
          replace r27 := r27.mono s101.ex
          replace r31 := r31.mono s101.ex
          replace st := st.go s101 go0
          replace sj95 := sj95.go s101 go0
          replace w := s101.ok
          cases r103
          refine h_bl ?_
          exact kk97 _ _ ⟨_, sj95⟩ P.ok
         ·replace P := P.iteF c1
          exact kk97 _ _ ⟨_, sj95⟩ P.ok
        rintro b104 H106 ⟨B105, s107⟩ P
        replace r19 := r19.mono s107.ex
        replace r23 := r23.mono s107.ex
        replace r27 := r27.mono s107.ex
        replace r31 := r31.mono s107.ex
        replace st := st.go s107 go0
        replace w := s107.ok
        refine h_ite (fun c1 => ?_) (fun c1 => ?_)
        ·replace P := P.iteT c1
         refine h_ret (h_makeBE ?_)
         refine h_cons (h_var rfl (h_cons (h_var rfl (h_nil (h_cons (h_var rfl (h_nil ?_)))))))
         obtain ⟨i108, hi109, P⟩ := P.asI
         have rc110 := r23
         rw [hi109] at rc110
         cases rc110
         obtain ⟨i111, hi112, P⟩ := P.asI
         have rc113 := r27
         rw [hi112] at rc113
         cases rc113
         refine h_make (us := [.int i108, .int i111, u30]) (ns := ["begin", "span", "rules"]) rfl w T_Woven.toKC lo_Woven (ds := [("begin", enc (i108 : Int)), ("span", enc (i111 : Int)), ("rules", enc (x28 : D))]) (.cons (Rep.int _) (.cons (Rep.int _) (.cons r31 .nil))) (fun p114 B115 H116 s117 r118 => ?_)
         replace r19 := r19.mono s117.ex
         replace r23 := r23.mono s117.ex
         replace r27 := r27.mono s117.ex
         replace r31 := r31.mono s117.ex
         replace st := st.go s117 go0
         replace w := s117.ok
         replace r118 : Rep K B115 (.ref p114) (enc (K_Leaf.Woven i108 i111 x28)) := r118
         exact P.ok _ _ _ st r118
        ·replace P := P.iteF c1
         refine h_next ?_
         refine h_nx ?_
         exact P.err _ none _ _ T_NoLeaf.g st rfl
theorem ok__law_cell_at {f : Addr} {fd : FuncData}  (F : Fun K "_law_cell_at" "_law_cell_at" s__law_cell_at f fd) (bI_len : mg "len" = none) : FnOk Pr wo K mg base CX0 1 f fd ["_law_script", "_law_k"] (sp__law_cell_at K) := by
 refine F.ok sc__law_cell_at (fun vs H Q E h => ?_) (fun cdv A outer s H0 vs Q E hr h => ?_)
 ·obtain ⟨_, _, _, _, _, rfl, _⟩ := h; rfl
 ·obtain ⟨B0, v_script, a_script, a_k, w, rfl, r_script, P⟩ := h
  have hu := hu_of hr
  have hu64 := hu64_of hr
  refine ⟨_, (pss_cons (ps_if (pt_cmpR op_lt (pv 1) (pe_callB (r := rLenY K) cr_len (by rfl) bI_len PySem.boot_len (pa_cons (pv 0) pa_nil)) (nomark _)) (pss_one (ps_ret (pe_ix (r := rIxL K) ix_list (pv 0) (pv 1) (fun _ _ => rfl)))) pss_nil)
   (pss_cons (ps_if (pt_cmpR (r := rEqD K) (op_eqD hu64) (pv 0) (pe_lst pa_nil) (nomark _)) (pss_one (ps_ret (pv 1))) pss_nil)
   (pss_one (ps_ret (pe_op op_add (pe_ix (r := rIxL K) ix_list (pv 0) (pe_op op_mod (pv 1) (pe_callB (r := rLenY K) cr_len (by rfl) bI_len PySem.boot_len (pa_cons (pv 0) pa_nil))) (fun _ _ => rfl)) (pe_op op_mul pe_int (pv 1))))))), ?_⟩
  unfold l_cell_at at P
  have st := Stp.refl (W := []) w
  refine h_seq <| h_if ?_
  refine h_test ?_
  refine h_op (h_var rfl (h_cb (h_cons (h_var rfl (h_nil ?_)))))
  obtain ⟨p1, xs2, rfl, hs3, hr4⟩ := Bor.sq (r_script.step st)
  refine h_len hs3 hr4 ?_
  refine h_I0 (h_bl ?_)
  refine h_ite (fun c1 => ?_) (fun c1 => ?_)
  ·replace P := P.iteT c1
   refine h_ret (h_op (h_var rfl (h_var rfl ?_)))
   obtain ⟨p5, xs6, hv, hs7, hr8⟩ := Bor.sq (r_script.step st)
   cases hv
   obtain ⟨x9, hx10, P⟩ := P.ix
   obtain ⟨u11, hu, r12⟩ := RepL.atE hr8 hx10
   refine h_ixL hs7 hu ?_
   cases r12
   exact P.ok _ _ _ st (Rep.int _)
  ·replace P := P.iteF c1
   refine h_next ?_
   refine h_nx ?_
   refine h_seq <| h_if ?_
   refine h_test ?_
   refine h_op (h_var rfl (h_lst (h_nil ?_)))
   refine h_newL w (ds := (([] : List D)).map enc) (K := K) .nil (fun p13 B14 H15 s16 r17 => ?_) (by show 0 ≤ sizeLine; decide)
   replace st := st.go s16 go0
   replace w := s16.ok
   replace r17 : Rep K B14 (.ref p13) (enc ([] : List D)) := r17
   obtain ⟨gd, P⟩ := P.guard
   obtain ⟨p18, xs19, hv, hs20, hr21⟩ := Bor.sq (r_script.step st)
   cases hv
   refine h_eqC (d := (enc a_script)) (e := (enc ([] : List D))) (SqL.cp w hs20 hr21) (Rep.cp w r17) gd ?_
   refine h_bl ?_
   refine h_ite (fun c1 => ?_) (fun c1 => ?_)
   ·replace P := P.iteT c1
    refine h_ret (h_var rfl ?_)
    exact P.ok _ _ _ st (Rep.int _)
   ·replace P := P.iteF c1
    refine h_next ?_
    refine h_nx ?_
    refine h_ret (h_op (h_op (h_var rfl (h_op (h_var rfl (h_cb (h_cons (h_var rfl (h_nil ?_)))))))))
    obtain ⟨p22, xs23, hv, hs24, hr25⟩ := Bor.sq (r_script.step st)
    cases hv
    refine h_len hs24 hr25 ?_
    obtain ⟨gd, P⟩ := P.guard
    refine h_I gd ?_
    obtain ⟨p26, xs27, hv, hs28, hr29⟩ := Bor.sq (r_script.step st)
    cases hv
    obtain ⟨x30, hx31, P⟩ := P.ix
    obtain ⟨u32, hu, r33⟩ := RepL.atE hr29 hx31
    refine h_ixL hs28 hu ?_
    cases r33
    refine h_op (h_c (h_var rfl (h_I (.inl ⟨by decide +kernel, by decide +kernel⟩) ?_)))
    refine h_I0 ?_
    exact P.ok _ _ _ st (Rep.int _)
theorem ok__law_well {f : Addr} {fd : FuncData}  (F : Fun K "_law_well" "_law_well" s__law_well f fd) (X__law_cell_at : Cal Pr wo K mg base "_law_cell_at" ["_law_script", "_law_k"] CX0 1 (sp__law_cell_at K)) : FnOk Pr wo K mg base CX0 2 f fd ["_law_script", "_law_k"] (sp__law_well K) := by
 obtain ⟨_, _, g__law_cell_at, k__law_cell_at, b__law_cell_at, G__law_cell_at⟩ := X__law_cell_at
 refine F.ok sc__law_well (fun vs H Q E h => ?_) (fun cdv A outer s H0 vs Q E hr h => ?_)
 ·obtain ⟨_, _, _, _, _, rfl, _⟩ := h; rfl
 ·obtain ⟨B0, v_script, a_script, a_k, w, rfl, r_script, P⟩ := h
  have hr1 : Room 1 _ := hr.mono (by decide)
  refine ⟨_, (pss_cons (ps_set (i := 2) sc__law_well.nd rfl (.inl rfl) (pe_call G__law_cell_at hr1 rfl g__law_cell_at k__law_cell_at b__law_cell_at .nil pass0 (pa_cons (pv 0) (pa_cons (pv 1) pa_nil))))
   (pss_one (ps_ret (pe_lst (pa_cons (pv 2) (pa_cons (pe_op op_mod (pv 2) pe_int) (pa_cons pe_int pa_nil))))))), ?_⟩
  unfold l_well at P
  have st := Stp.refl (W := []) w
  refine h_set (h_call (h_cons (h_var rfl (h_cons (h_var rfl (h_nil ?_))))))
  refine ⟨B0, v_script, a_script, a_k, w, rfl, ((r_script.step st).w sub0), (P.bind).mono (fun x1 P => ?_) (fun _ z => z)⟩
  refine fun v5 B2 H3 s4 r6 => ?_
  replace st := st.go s4 go0
  replace w := s4.ok
  cases r6
  refine h_ret (h_lst (h_cons (h_var rfl (h_cons (h_op (h_var rfl (h_c (h_I (by decide +kernel) ?_))))))))
  refine h_cons (h_c (h_nil ?_))
  refine h_newM w (ds := (([x1, (x1 % 2147483647), 0] : List Int)).map enc) (K := K) (.cons (Rep.int _) (.cons (Rep.int _) (.cons (Rep.int _) .nil))) (fun p7 H8 hn11 s9 m10 => ?_) (by show 3 ≤ sizeLine; decide)
  have n12 := st.nn hn11
  replace st := st.go s9 go0
  replace w := s9.ok
  exact P.ok _ _ _ st n12 m10
theorem ok__law_draw {f : Addr} {fd : FuncData}  (F : Fun K "_law_draw" "_law_draw" s__law_draw f fd)  : FnOk Pr wo K mg base CX0 1 f fd ["_law_well_here", "_law_many"] (sp__law_draw K) := by
 refine F.ok sc__law_draw (fun vs H Q E h => ?_) (fun cdv A outer s H0 vs Q E hr h => ?_)
 ·obtain ⟨_, _, _, _, _, rfl, _⟩ := h; rfl
 ·obtain ⟨B0, p_well_here, a_well_here, a_many, w, rfl, m_well_here, P⟩ := h
  have hu := hu_of hr
  refine ⟨_, (pss_cons (ps_if (pt_cmpR op_ge (pe_ix (r := rIxL K) ix_list (pv 0) pe_int (fun _ _ => rfl)) (pe_op op_pow pe_int pe_int) (nomark _)) (pss_cons (ps_set (i := 2) sc__law_draw.nd rfl (.inl rfl) (pe_op op_mod (pe_ix (r := rIxL K) ix_list (pv 0) pe_int (fun _ _ => rfl)) (pv 1)))
   (pss_cons (ps_asg (pe_op op_fdivW (pe_ix (r := rIxL K) ix_list (pv 0) pe_int (fun _ _ => rfl)) (pv 1)) (pg_sub (pv 0) pe_int set_list))
   (pss_one (ps_ret (pv 2))))) pss_nil)
   (pss_cons (ps_asg (pe_op op_add (pe_ix (r := rIxL K) ix_list (pv 0) pe_int (fun _ _ => rfl)) pe_int) (pg_sub (pv 0) pe_int set_list))
   (pss_cons (ps_set (i := 3) sc__law_draw.nd rfl (.inl rfl) (pe_op op_mod (pe_op op_mul (pe_op op_add (pe_op op_add (pe_ix (r := rIxL K) ix_list (pv 0) pe_int (fun _ _ => rfl)) (pe_op op_mul pe_int (pe_ix (r := rIxL K) ix_list (pv 0) pe_int (fun _ _ => rfl)))) pe_int) pe_int) pe_int))
   (pss_cons (ps_set (i := 3) sc__law_draw.nd rfl (.inl rfl) (pe_op op_mod (pe_op op_mulW (pv 3) (pe_op op_add (pe_op op_fdiv (pv 3) pe_int) pe_int)) pe_int))
   (pss_one (ps_ret (pe_op op_mod (pe_op op_mod (pe_op op_mulW (pv 3) (pe_op op_add (pe_op op_fdiv (pv 3) pe_int) pe_int)) pe_int) (pv 1)))))))), ?_⟩
  unfold l_draw at P
  have st := Stp.refl (W := [p_well_here]) w
  refine h_seq <| h_if ?_
  refine h_test ?_
  refine h_op (h_op (h_var rfl (h_c ?_)))
  obtain ⟨xs2, hv, hs3, hr4⟩ := Mu.sq m_well_here
  obtain ⟨x5, hx6, P⟩ := P.ix
  obtain ⟨u7, hu, r8⟩ := RepL.atE hr4 hx6
  refine h_ixL hs3 hu ?_
  cases r8
  refine h_op (h_c (h_c (h_pow (k := 1000000000000000000) (by decide +kernel) (by decide +kernel) ?_)))
  refine h_I0 (h_bl ?_)
  refine h_ite (fun c1 => ?_) (fun c1 => ?_)
  ·replace P := P.iteT c1
   refine h_set (h_op (h_op (h_var rfl (h_c ?_))))
   obtain ⟨xs10, hv, hs11, hr12⟩ := Mu.sq m_well_here
   obtain ⟨x13, hx14, P⟩ := P.ix
   obtain ⟨u15, hu, r16⟩ := RepL.atE hr12 hx14
   refine h_ixL hs11 hu ?_
   cases r16
   refine h_var rfl ?_
   obtain ⟨gd, P⟩ := P.guard
   refine h_I gd ?_
   replace P := P.lt
   generalize hx : (x13 % a_many) = x17 at P ⊢
   refine h_seq (h_asg ?_)
   refine h_op (h_op (h_var rfl (h_c ?_)))
   obtain ⟨xs19, hv, hs20, hr21⟩ := Mu.sq m_well_here
   obtain ⟨x22, hx23, P⟩ := P.ix
   obtain ⟨u24, hu, r25⟩ := RepL.atE hr21 hx23
   refine h_ixL hs20 hu ?_
   cases r25
   refine h_var rfl ?_
   obtain ⟨gd, P⟩ := P.guard
   refine h_I gd ?_
   refine h_sub ?_
   refine h_var rfl (h_c ?_)
   obtain ⟨j27, hj28, P⟩ := P.set
   refine h_setL (b := (x22 / a_many)) w m_well_here (Rep.int _) hj28 (fun H29 s30 m_well_here => ?_)
   replace st := st.go s30 (go1 (.inl (by simp)))
   replace w := s30.ok
   generalize hl : List.set a_well_here j27 (x22 / a_many) = x26 at *
   refine h_nx ?_
   refine h_ret (h_var rfl ?_)
   exact P.ok _ _ _ st m_well_here (Rep.int _)
  ·replace P := P.iteF c1
   refine h_next ?_
   refine h_nx ?_
   refine h_seq (h_asg ?_)
   refine h_op (h_op (h_var rfl (h_c ?_)))
   obtain ⟨xs32, hv, hs33, hr34⟩ := Mu.sq m_well_here
   obtain ⟨x35, hx36, P⟩ := P.ix
   obtain ⟨u37, hu, r38⟩ := RepL.atE hr34 hx36
   refine h_ixL hs33 hu ?_
   cases r38
   refine h_c (h_I0 (h_sub ?_))
   refine h_var rfl (h_c ?_)
   obtain ⟨j40, hj41, P⟩ := P.set
   refine h_setL (b := (x35 + 1)) w m_well_here (Rep.int _) hj41 (fun H42 s43 m_well_here => ?_)
   replace st := st.go s43 (go1 (.inl (by simp)))
   replace w := s43.ok
   generalize hl : List.set a_well_here j40 (x35 + 1) = x39 at *
   refine h_nx ?_
   refine h_set (h_op (h_op (h_op (h_op (h_op (h_var rfl (h_c ?_)))))))
   obtain ⟨xs45, hv, hs46, hr47⟩ := Mu.sq m_well_here
   obtain ⟨x48, hx49, P⟩ := P.ix
   obtain ⟨u50, hu, r51⟩ := RepL.atE hr47 hx49
   refine h_ixL hs46 hu ?_
   cases r51
   refine h_op (h_c (h_op (h_var rfl (h_c ?_))))
   obtain ⟨xs53, hv, hs54, hr55⟩ := Mu.sq m_well_here
   obtain ⟨x56, hx57, P⟩ := P.ix
   obtain ⟨u58, hu, r59⟩ := RepL.atE hr55 hx57
   refine h_ixL hs54 hu ?_
   cases r59
   refine h_I (.inl ⟨by decide +kernel, by decide +kernel⟩) ?_
   refine h_I0 (h_c (h_I0 (h_c (h_I (.inr ⟨by decide +kernel, by decide +kernel⟩) ?_))))
   refine h_c (h_I (by decide +kernel) ?_)
   replace P := P.lt
   generalize hx : ((((x48 + (7919 * x56)) + 1) * 48271) % 2147483647) = x60 at P ⊢
   refine h_set (h_op (h_op (h_var rfl (h_op (h_op (h_var rfl (h_c (h_I ⟨by decide +kernel, by decide +kernel⟩ ?_))))))))
   refine h_c (h_I0 ?_)
   obtain ⟨gd, P⟩ := P.guard
   refine h_I gd ?_
   refine h_c (h_I (by decide +kernel) ?_)
   replace P := P.lt
   generalize hx : ((x60 * ((x60 / 1009) + 69621)) % 2147483647) = x61 at P ⊢
   refine h_ret (h_op (h_op (h_op (h_var rfl (h_op (h_op (h_var rfl (h_c (h_I ⟨by decide +kernel, by decide +kernel⟩ ?_)))))))))
   refine h_c (h_I0 ?_)
   obtain ⟨gd, P⟩ := P.guard
   refine h_I gd ?_
   refine h_c (h_I (by decide +kernel) ?_)
   refine h_var rfl ?_
   obtain ⟨gd, P⟩ := P.guard
   refine h_I gd ?_
   exact P.ok _ _ _ st m_well_here (Rep.int _)
theorem ok__law_whole {f : Addr} {fd : FuncData}  (F : Fun K "_law_whole" "_law_whole" s__law_whole f fd) (bI_isinstance : mg "isinstance" = none) (bI_int : mg "int" = none) (bI_bool : mg "bool" = none) : FnOk Pr wo K mg base CX0 1 f fd ["_law_thing"] (sp__law_whole K) := by
 refine F.ok sc__law_whole (fun vs H Q E h => ?_) (fun cdv A outer s H0 vs Q E hr h => ?_)
 ·obtain ⟨_, _, _, _, rfl, _⟩ := h; rfl
 ·obtain ⟨B0, v_thing, a_thing, w, rfl, r_thing, P⟩ := h
  refine ⟨_, (pss_one (ps_ret (pe_and (pe_callB (r := rIsi K) call_isi (by rfl) bI_isinstance PyProof.Rows.boot_isinstance (pa_cons (pv 0) (pa_cons (pe_bltn (v := .ty "int") (by rfl) bI_int Y.boot_int rfl) pa_nil))) (pe_one (pe_not (pe_callB (r := rIsi K) call_isi (by rfl) bI_isinstance PyProof.Rows.boot_isinstance (pa_cons (pv 0) (pa_cons (pe_bltn (v := .ty "bool") (by rfl) bI_bool Y.boot_bool rfl) pa_nil)))))))), ?_⟩
  unfold l_whole at P
  have st := Stp.refl (W := []) w
  refine h_ret (h_and ?_)
  refine h_cb (h_cons (h_var rfl (h_cons (h_c (h_nil ?_)))))
  refine isi (t := "int") w (r_thing.mono st.ex) ?_
  refine h_bl ?_
  refine h_ite (fun c1 => ?_) (fun c1 => ?_)
  ·replace P := P.iteT c1
   refine h_not ?_
   refine h_cb (h_cons (h_var rfl (h_cons (h_c (h_nil ?_)))))
   refine isi (t := "bool") w (r_thing.mono st.ex) ?_
   refine h_bl ?_
   exact P.ok _ _ _ st (Rep.bl _)
  ·replace P := P.iteF c1
   exact P.ok _ _ _ st (Rep.bl _)
theorem ok__law_back {f : Addr} {fd : FuncData}  (F : Fun K "_law_back" "_law_back" s__law_back f fd) (X__law_draw : Cal Pr wo K mg base "_law_draw" ["_law_well_here", "_law_many"] CX0 1 (sp__law_draw K)) (bI_min : mg "min" = none) : FnOk Pr wo K mg base CX0 2 f fd ["_law_well_here", "_law_number"] (sp__law_back K) := by
 obtain ⟨_, _, g__law_draw, k__law_draw, b__law_draw, G__law_draw⟩ := X__law_draw
 refine F.ok sc__law_back (fun vs H Q E h => ?_) (fun cdv A outer s H0 vs Q E hr h => ?_)
 ·obtain ⟨_, _, _, _, _, rfl, _⟩ := h; rfl
 ·obtain ⟨B0, p_well_here, a_well_here, a_number, w, rfl, m_well_here, P⟩ := h
  have hr1 : Room 1 _ := hr.mono (by decide)
  refine ⟨_, (pss_cons (ps_if (pt_cmpR op_eq (pe_call G__law_draw hr1 rfl g__law_draw k__law_draw b__law_draw .nil pass0 (pa_cons (pv 0) (pa_cons pe_int pa_nil))) pe_int (nomark _)) (pss_one (ps_ret (pe_op op_add pe_int (pe_call G__law_draw hr1 rfl g__law_draw k__law_draw b__law_draw .nil pass0 (pa_cons (pv 0) (pa_cons (pv 1) pa_nil)))))) pss_nil)
   (pss_one (ps_ret (pe_op op_add pe_int (pe_call G__law_draw hr1 rfl g__law_draw k__law_draw b__law_draw .nil pass0 (pa_cons (pv 0) (pa_cons (pe_callB (cr_minY rfl) (by rfl) bI_min PyProof.Rows.boot_min (pa_cons (pv 1) (pa_cons pe_int pa_nil))) pa_nil))))))), ?_⟩
  unfold l_back at P
  have st := Stp.refl (W := [p_well_here]) w
  refine h_seq <| h_if ?_
  refine h_test ?_
  refine h_op (h_call (h_cons (h_var rfl (h_cons (h_c (h_nil ?_))))))
  refine ⟨B0, p_well_here, a_well_here, 3, w, rfl, m_well_here, (P.bind).mono (fun x1 P => ?_) (fun _ z => z)⟩
  refine fun v5 B2 H3 s4 m_well_here r6 => ?_
  replace st := st.go s4 (go1 (.inl (by simp)))
  replace w := s4.ok
  cases r6
  refine h_c (h_eqI ?_)
  refine h_bl ?_
  refine h_ite (fun c1 => ?_) (fun c1 => ?_)
  ·replace P := P.iteT c1
   refine h_ret (h_op (h_c (h_call (h_cons (h_var rfl (h_cons (h_var rfl (h_nil ?_))))))))
   refine ⟨B2, p_well_here, x1.2, a_number, w, rfl, m_well_here, (P.bind).mono (fun x7 P => ?_) (fun _ z => z)⟩
   refine fun v11 B8 H9 s10 m_well_here r12 => ?_
   replace st := st.go s10 (go1 (.inl (by simp)))
   replace w := s10.ok
   cases r12
   refine h_I0 ?_
   exact P.ok _ _ _ st m_well_here (Rep.int _)
  ·replace P := P.iteF c1
   refine h_next ?_
   refine h_nx ?_
   refine h_ret (h_op (h_c (h_call (h_cons (h_var rfl (h_cons (h_cb (h_cons (h_var rfl (h_cons (h_c (h_nil (h_min ?_)))))))))))))
   refine h_nil ?_
   refine ⟨B2, p_well_here, x1.2, (minI a_number 3), w, rfl, m_well_here, (P.bind).mono (fun x13 P => ?_) (fun _ z => z)⟩
   refine fun v17 B14 H15 s16 m_well_here r18 => ?_
   replace st := st.go s16 (go1 (.inl (by simp)))
   replace w := s16.ok
   cases r18
   refine h_I0 ?_
   exact P.ok _ _ _ st m_well_here (Rep.int _)
theorem ok__law_rule {f : Addr} {fd : FuncData}  (F : Fun K "_law_rule" "_law_rule" s__law_rule f fd) (X__law_draw : Cal Pr wo K mg base "_law_draw" ["_law_well_here", "_law_many"] CX0 1 (sp__law_draw K)) (X__law_back : Cal Pr wo K mg base "_law_back" ["_law_well_here", "_law_number"] CX0 2 (sp__law_back K)) : FnOk Pr wo K mg base CX0 3 f fd ["_law_well_here", "_law_number", "_law_wide"] (sp__law_rule K) := by
 obtain ⟨_, _, g__law_draw, k__law_draw, b__law_draw, G__law_draw⟩ := X__law_draw
 obtain ⟨_, _, g__law_back, k__law_back, b__law_back, G__law_back⟩ := X__law_back
 refine F.ok sc__law_rule (fun vs H Q E h => ?_) (fun cdv A outer s H0 vs Q E hr h => ?_)
 ·obtain ⟨_, _, _, _, _, _, rfl, _⟩ := h; rfl
 ·obtain ⟨B0, p_well_here, a_well_here, a_number, a_wide, w, rfl, m_well_here, P⟩ := h
  have hr1 : Room 1 _ := hr.mono (by decide)
  have hr2 : Room 2 _ := hr.mono (by decide)
  refine ⟨_, (pss_cons (ps_set (i := 3) sc__law_rule.nd rfl (.inl rfl) (pe_call G__law_draw hr1 rfl g__law_draw k__law_draw b__law_draw .nil pass0 (pa_cons (pv 0) (pa_cons pe_int pa_nil))))
   (pss_cons (ps_if (PW.pt (pw_or (pt_cmpR op_eq (pv 1) pe_int (nomark _)) (pw_or1 (pt_cmpR op_eq (pv 3) pe_int (nomark _))))) (pss_one (ps_ret (pe_tup (pa_cons pe_str (pa_cons (pe_call G__law_draw hr1 rfl g__law_draw k__law_draw b__law_draw .nil pass0 (pa_cons (pv 0) (pa_cons pe_int pa_nil))) pa_nil))))) pss_nil)
   (pss_cons (ps_set (i := 4) sc__law_rule.nd rfl (.inl rfl) (pe_call G__law_back hr2 rfl g__law_back k__law_back b__law_back .nil pass0 (pa_cons (pv 0) (pa_cons (pv 1) pa_nil))))
   (pss_cons (ps_set (i := 5) sc__law_rule.nd rfl (.inl rfl) (pe_call G__law_draw hr1 rfl g__law_draw k__law_draw b__law_draw .nil pass0 (pa_cons (pv 0) (pa_cons (pv 2) pa_nil))))
   (pss_cons (ps_if (pt_cmpR op_eq (pv 3) pe_int (nomark _)) (pss_one (ps_ret (pe_tup (pa_cons pe_str (pa_cons (pv 4) (pa_cons (pv 5) (pa_cons (pe_call G__law_draw hr1 rfl g__law_draw k__law_draw b__law_draw .nil pass0 (pa_cons (pv 0) (pa_cons pe_int pa_nil))) pa_nil))))))) pss_nil)
   (pss_one (ps_ret (pe_tup (pa_cons pe_str (pa_cons (pv 4) (pa_cons (pv 5) (pa_cons (pe_call G__law_back hr2 rfl g__law_back k__law_back b__law_back .nil pass0 (pa_cons (pv 0) (pa_cons (pv 1) pa_nil))) (pa_cons (pe_call G__law_draw hr1 rfl g__law_draw k__law_draw b__law_draw .nil pass0 (pa_cons (pv 0) (pa_cons (pv 2) pa_nil))) pa_nil))))))))))))), ?_⟩
  unfold l_rule at P
  have st := Stp.refl (W := [p_well_here]) w
  refine h_set (h_call (h_cons (h_var rfl (h_cons (h_c (h_nil ?_))))))
  refine ⟨B0, p_well_here, a_well_here, 4, w, rfl, m_well_here, (P.bind).mono (fun x1 P => ?_) (fun _ z => z)⟩
  refine fun v5 B2 H3 s4 m_well_here r6 => ?_
  replace st := st.go s4 (go1 (.inl (by simp)))
  replace w := s4.ok
  cases r6
  refine h_seq <| h_if ?_
  have wj8 := w
  have sj7 := Stp.refl (W := []) w
  refine h_condJ P (fun H' => ∃ B', Stp [] B2 H3 B' H') (fun N kk9 P => ?_) ?_
  ·skip
   refine h_tor ?_
   refine h_test ?_
   refine h_op (h_var rfl (h_c (h_eqI ?_)))
   refine h_bl ?_
   refine h_ite (fun c1 => ?_) (fun c1 => ?_)
   ·replace P := P.iteT c1
    exact kk9 _ _ ⟨_, sj7⟩ P.ok
   ·replace P := P.iteF c1
    refine h_test ?_
    refine h_op (h_var rfl (h_c (h_eqI ?_)))
    refine h_bl ?_
    exact kk9 _ _ ⟨_, sj7⟩ P.ok
  rintro b10 H12 ⟨B11, s13⟩ P
  replace m_well_here := m_well_here.step s13 nm0
  replace st := st.go s13 go0
  replace w := s13.ok
  refine h_ite (fun c1 => ?_) (fun c1 => ?_)
  ·replace P := P.iteT c1
   refine h_ret (h_tup ?_)
   refine h_cons (h_c (h_cons (h_call (h_cons (h_var rfl (h_cons (h_c (h_nil ?_))))))))
   refine ⟨B11, p_well_here, x1.2, 256, w, rfl, m_well_here, (P.bind).mono (fun x14 P => ?_) (fun _ z => z)⟩
   refine fun v18 B15 H16 s17 m_well_here r19 => ?_
   replace st := st.go s17 (go1 (.inl (by simp)))
   replace w := s17.ok
   cases r19
   refine h_nil ?_
   refine h_newT w (K := K) (.cons (Rep.str _) (.cons (Rep.int _) .nil)) (fun p20 B21 H22 s23 r24 => ?_) (by show 2 ≤ sizeLine; decide)
   replace m_well_here := m_well_here.step s23 nm0
   replace st := st.go s23 go0
   replace w := s23.ok
   replace r24 : Rep K B21 (.ref p20) (enc (⟨("plain" : Str), x14.1⟩ : (Tp2 Str Int))) := r24
   exact P.ok _ _ _ st m_well_here r24
  ·replace P := P.iteF c1
   refine h_next ?_
   refine h_nx ?_
   refine h_set (h_call (h_cons (h_var rfl (h_cons (h_var rfl (h_nil ?_))))))
   refine ⟨B11, p_well_here, x1.2, a_number, w, rfl, m_well_here, (P.bind).mono (fun x25 P => ?_) (fun _ z => z)⟩
   refine fun v29 B26 H27 s28 m_well_here r30 => ?_
   replace st := st.go s28 (go1 (.inl (by simp)))
   replace w := s28.ok
   cases r30
   refine h_set (h_call (h_cons (h_var rfl (h_cons (h_var rfl (h_nil ?_))))))
   refine ⟨B26, p_well_here, x25.2, a_wide, w, rfl, m_well_here, (P.bind).mono (fun x31 P => ?_) (fun _ z => z)⟩
   refine fun v35 B32 H33 s34 m_well_here r36 => ?_
   replace st := st.go s34 (go1 (.inl (by simp)))
   replace w := s34.ok
   cases r36
   refine h_seq <| h_if ?_
   refine h_test ?_
   refine h_op (h_var rfl (h_c (h_eqI ?_)))
   refine h_bl ?_
   refine h_ite (fun c1 => ?_) (fun c1 => ?_)
   ·replace P := P.iteT c1
    refine h_ret (h_tup ?_)
    refine h_cons (h_c (h_cons (h_var rfl (h_cons (h_var rfl (h_cons (h_call (h_cons (h_var rfl (h_cons (h_c (h_nil ?_))))))))))))
    refine ⟨B32, p_well_here, x31.2, 256, w, rfl, m_well_here, (P.bind).mono (fun x37 P => ?_) (fun _ z => z)⟩
    refine fun v41 B38 H39 s40 m_well_here r42 => ?_
    replace st := st.go s40 (go1 (.inl (by simp)))
    replace w := s40.ok
    cases r42
    refine h_nil ?_
    refine h_newT w (K := K) (.cons (Rep.str _) (.cons (Rep.int _) (.cons (Rep.int _) (.cons (Rep.int _) .nil)))) (fun p43 B44 H45 s46 r47 => ?_) (by show 4 ≤ sizeLine; decide)
    replace m_well_here := m_well_here.step s46 nm0
    replace st := st.go s46 go0
    replace w := s46.ok
    replace r47 : Rep K B44 (.ref p43) (enc (⟨("moved" : Str), x25.1, x31.1, x37.1⟩ : (Tp4 Str Int Int Int))) := r47
    exact P.ok _ _ _ st m_well_here r47
   ·replace P := P.iteF c1
    refine h_next ?_
    refine h_nx ?_
    refine h_ret (h_tup ?_)
    refine h_cons (h_c (h_cons (h_var rfl (h_cons (h_var rfl (h_cons (h_call (h_cons (h_var rfl (h_cons (h_var rfl (h_nil ?_))))))))))))
    refine ⟨B32, p_well_here, x31.2, a_number, w, rfl, m_well_here, (P.bind).mono (fun x48 P => ?_) (fun _ z => z)⟩
    refine fun v52 B49 H50 s51 m_well_here r53 => ?_
    replace st := st.go s51 (go1 (.inl (by simp)))
    replace w := s51.ok
    cases r53
    refine h_cons (h_call (h_cons (h_var rfl (h_cons (h_var rfl (h_nil ?_))))))
    refine ⟨B49, p_well_here, x48.2, a_wide, w, rfl, m_well_here, (P.bind).mono (fun x54 P => ?_) (fun _ z => z)⟩
    refine fun v58 B55 H56 s57 m_well_here r59 => ?_
    replace st := st.go s57 (go1 (.inl (by simp)))
    replace w := s57.ok
    cases r59
    refine h_nil ?_
    refine h_newT w (K := K) (.cons (Rep.str _) (.cons (Rep.int _) (.cons (Rep.int _) (.cons (Rep.int _) (.cons (Rep.int _) .nil))))) (fun p60 B61 H62 s63 r64 => ?_) (by show 5 ≤ sizeLine; decide)
    replace m_well_here := m_well_here.step s63 nm0
    replace st := st.go s63 go0
    replace w := s63.ok
    replace r64 : Rep K B61 (.ref p60) (enc (⟨("mixed" : Str), x25.1, x31.1, x48.1, x54.1⟩ : (Tp5 Str Int Int Int Int))) := r64
    exact P.ok _ _ _ st m_well_here r64
theorem ok__law_leaf {f : Addr} {fd : FuncData}  (F : Fun K "_law_leaf" "_law_leaf" s__law_leaf f fd) (X__law_draw : Cal Pr wo K mg base "_law_draw" ["_law_well_here", "_law_many"] CX0 1 (sp__law_draw K)) (X__law_back : Cal Pr wo K mg base "_law_back" ["_law_well_here", "_law_number"] CX0 2 (sp__law_back K)) (X__law_rule : Cal Pr wo K mg base "_law_rule" ["_law_well_here", "_law_number", "_law_wide"] CX0 3 (sp__law_rule K)) (bI_tuple : mg "tuple" = none) (bI_range : mg "range" = none) : FnOk Pr wo K mg base CX0 4 f fd ["_law_well_here", "_law_number", "_law_wide", "_law_slot"] (sp__law_leaf K) := by
 obtain ⟨_, _, g__law_draw, k__law_draw, b__law_draw, G__law_draw⟩ := X__law_draw
 obtain ⟨_, _, g__law_back, k__law_back, b__law_back, G__law_back⟩ := X__law_back
 obtain ⟨_, _, g__law_rule, k__law_rule, b__law_rule, G__law_rule⟩ := X__law_rule
 refine F.ok sc__law_leaf (fun vs H Q E h => ?_) (fun cdv A outer s H0 vs Q E hr h => ?_)
 ·obtain ⟨_, _, _, _, _, _, _, _, rfl, _⟩ := h; rfl
 ·obtain ⟨B0, p_well_here, a_well_here, a_number, a_wide, v_slot, a_slot, w, rfl, m_well_here, r_slot, P⟩ := h
  have w0 := w
  have hu := hu_of hr
  have hr1 : Room 1 _ := hr.mono (by decide)
  have hr2 : Room 2 _ := hr.mono (by decide)
  have hr3 : Room 3 _ := hr.mono (by decide)
  refine ⟨_, (pss_cons (ps_set (i := 4) sc__law_leaf.nd rfl (.inl rfl) (pe_call G__law_draw hr1 rfl g__law_draw k__law_draw b__law_draw .nil pass0 (pa_cons (pv 0) (pa_cons pe_int pa_nil))))
   (pss_cons (ps_if (pt_cmpR op_eq (pv 4) pe_int (nomark _)) (pss_one (ps_ret (pe_tup (pa_cons pe_str (pa_cons (pe_ix (r := rIxT K) ix_tup (pv 3) pe_int (fun _ _ => rfl)) (pa_cons (pe_ix (r := rIxT K) ix_tup (pv 3) pe_int (fun _ _ => rfl)) (pa_cons (pe_callTy (r := rTupY K) cr_tuple (by rfl) bI_tuple Y.boot_tuple (pa_cons (pe_lc (own := [("_law_k", 5)]) rfl sc__law_leaf.nd (pi_range1 (by rfl) bI_range (pa_cons (pv 2) pa_nil)) (blkOk_by (N := ["_law_well_here", "_law_number", "_law_wide", "_law_slot", "_law_way_here", "_law_k"]) (sc := defScope s__law_leaf) (by decide +kernel)) (fun _ _ _ _ _ => (pg_name (i := 5) sc__law_leaf.nd rfl (by first | exact Or.inl rfl | exact Or.inr rfl))) (fun _ _ _ _ _ => pts_nil) (fun _ _ _ _ _ => (pe_call G__law_draw hr1 rfl g__law_draw k__law_draw b__law_draw .nil pass0 (pa_cons (pv 0) (pa_cons pe_int pa_nil))))) pa_nil)) pa_nil))))))) pss_nil)
   (pss_cons (ps_if (PW.pt (pw_and (pt_cmpR op_eq (pv 4) pe_int (nomark _)) (pw_and1 (pt_cmpR op_gt (pv 1) pe_int (nomark _))))) (pss_one (ps_ret (pe_tup (pa_cons pe_str (pa_cons (pe_ix (r := rIxT K) ix_tup (pv 3) pe_int (fun _ _ => rfl)) (pa_cons (pe_ix (r := rIxT K) ix_tup (pv 3) pe_int (fun _ _ => rfl)) (pa_cons (pe_call G__law_back hr2 rfl g__law_back k__law_back b__law_back .nil pass0 (pa_cons (pv 0) (pa_cons (pv 1) pa_nil))) pa_nil))))))) pss_nil)
   (pss_one (ps_ret (pe_tup (pa_cons pe_str (pa_cons (pe_ix (r := rIxT K) ix_tup (pv 3) pe_int (fun _ _ => rfl)) (pa_cons (pe_ix (r := rIxT K) ix_tup (pv 3) pe_int (fun _ _ => rfl)) (pa_cons (pe_callTy (r := rTupY K) cr_tuple (by rfl) bI_tuple Y.boot_tuple (pa_cons (pe_lc (own := [("_law_k", 5)]) rfl sc__law_leaf.nd (pi_range1 (by rfl) bI_range (pa_cons (pv 2) pa_nil)) (blkOk_by (N := ["_law_well_here", "_law_number", "_law_wide", "_law_slot", "_law_way_here", "_law_k"]) (sc := defScope s__law_leaf) (by decide +kernel)) (fun _ _ _ _ _ => (pg_name (i := 5) sc__law_leaf.nd rfl (by first | exact Or.inl rfl | exact Or.inr rfl))) (fun _ _ _ _ _ => pts_nil) (fun _ _ _ _ _ => (pe_call G__law_rule hr3 rfl g__law_rule k__law_rule b__law_rule .nil pass0 (pa_cons (pv 0) (pa_cons (pv 1) (pa_cons (pv 2) pa_nil)))))) pa_nil)) pa_nil)))))))))), ?_⟩
  unfold l_leaf at P
  have st := Stp.refl (W := [p_well_here]) w
  refine h_set (h_call (h_cons (h_var rfl (h_cons (h_c (h_nil ?_))))))
  refine ⟨B0, p_well_here, a_well_here, 6, w, rfl, m_well_here, (P.bind).mono (fun x1 P => ?_) (fun _ z => z)⟩
  refine fun v5 B2 H3 s4 m_well_here r6 => ?_
  replace st := st.go s4 (go1 (.inl (by simp)))
  replace w := s4.ok
  cases r6
  refine h_seq <| h_if ?_
  refine h_test ?_
  refine h_op (h_var rfl (h_c (h_eqI ?_)))
  refine h_bl ?_
  refine h_ite (fun c1 => ?_) (fun c1 => ?_)
  ·replace P := P.iteT c1
   refine h_ret (h_tup ?_)
   refine h_cons (h_c (h_cons (h_op (h_var rfl (h_c ?_)))))
   obtain ⟨p7, xs8, rfl, hs9, hr10⟩ := Rep.st w (r_slot.mono st.ex)
   obtain ⟨u11, hu, r12⟩ := RepL.at hr10 (i := 0) rfl
   refine h_ixT hs9 hu ?_
   cases r12
   refine h_cons (h_op (h_var rfl (h_c ?_)))
   obtain ⟨p13, xs14, hv, hs15, hr16⟩ := Rep.st w (r_slot.mono st.ex)
   cases hv
   obtain ⟨u17, hu, r18⟩ := RepL.at hr16 (i := 1) rfl
   refine h_ixT hs15 hu ?_
   cases r18
   refine h_cons (h_cb (h_cons (h_lcR1E ?_)))
   refine h_cons (h_var rfl (h_nil ?_))
   obtain ⟨gz19, P⟩ := P.guard
   refine h_lcR1 P (fun Dl (acc : List Int) (a : (List Int)) H' => ∃ B', Stp [p_well_here] B2 H3 B' H' ∧ H3 Dl = none ∧ Mu K B' H' Dl (acc.map enc) ∧ p_well_here ≠ Dl ∧ Mu K B' H' p_well_here (a.map enc)) (fun Dl hD => ⟨_, Stp.newM w hD, hD, Mu.new w hD .nil, Mu.ne m_well_here hD, m_well_here.step (Stp.newM (W := []) w hD) nm0⟩) ?_ ?_ gz19
   ·rintro Dl20 N21 T22 x23 acc26 a27 H28 ⟨B29, s30, hD31, m32, ne36, m_well_here⟩ hlox23 hhix23 hz33 kk34 kn35 P
    have wj38 := w
    have sj37 := s30
    have n39 := st.nn hD31
    replace st := st.go s30 (go1 (.inl (by simp)))
    replace w := s30.ok
    refine h_gname ?_
    refine h_lcT rfl ?_
    refine h_call (h_cons (h_var rfl (h_cons (h_c (h_nil ?_)))))
    refine ⟨B29, p_well_here, a27, 256, w, rfl, m_well_here, (P.bind).mono (fun x40 P => ?_) (fun _ z => z)⟩
    refine fun v44 B41 H42 s43 m_well_here r45 => ?_
    replace m32 := m32.step s43 (nm1 ne36.symm)
    replace st := st.go s43 (go1 (.inl (by simp)))
    replace sj37 := sj37.go s43 (go1 (.inl (by simp)))
    replace w := s43.ok
    cases r45
    refine h_app (b := x40.1) w m32 (Rep.int _) hz33 (fun H46 s47 m32 => ?_)
    replace m_well_here := m_well_here.step s47 (nm1 ne36)
    replace st := st.go s47 (go1 (.inr n39))
    replace sj37 := sj37.go s47 (go1 (.inr hD31))
    replace w := s47.ok
    exact kk34 x40.1 x40.2 _ ⟨_, sj37, hD31, m32, ne36, m_well_here⟩ P.ok
   ·rintro Dl20 acc26 a27 H28 ⟨B29, s30, hD31, m32, ne36, m_well_here⟩ P
    have n48 := st.nn hD31
    replace st := st.go s30 (go1 (.inl (by simp)))
    replace w := s30.ok
    replace P := P.un2
    obtain ⟨B53, e49, k50, g51, r52⟩ := Mu.keep m32
    replace st := g51 _ _ _ st w0 n48
    replace m_well_here := m_well_here.kp e49 k50 ne36
    replace w := st.ok
    replace r52 : Rep K B53 (.ref Dl20) (enc acc26) := r52
    refine h_nil ?_
    obtain ⟨p54, xs55, hv, hs56, hr57⟩ := Rep.sq w r52
    cases hv
    refine h_tupL hs56 (h_nwT w (K := K) hr57 (fun p58 B59 H60 s61 r62 => ?_))
    replace m_well_here := m_well_here.step s61 nm0
    replace st := st.go s61 go0
    replace w := s61.ok
    refine h_nil ?_
    refine h_newT w (K := K) (.cons (Rep.str _) (.cons (Rep.int _) (.cons (Rep.int _) (.cons r62 .nil)))) (fun p63 B64 H65 s66 r67 => ?_) (by show 4 ≤ sizeLine; decide)
    replace m_well_here := m_well_here.step s66 nm0
    replace st := st.go s66 go0
    replace w := s66.ok
    replace r67 : Rep K B64 (.ref p63) (enc (⟨("full" : Str), a_slot.a, a_slot.b, (.tup (acc26.map enc) : D)⟩ : (Tp4 Str Int Int D))) := r67
    exact P.ok _ _ _ st m_well_here r67
  ·replace P := P.iteF c1
   refine h_next ?_
   refine h_nx ?_
   refine h_seq <| h_if ?_
   have wj69 := w
   have sj68 := Stp.refl (W := []) w
   refine h_condJ P (fun H' => ∃ B', Stp [] B2 H3 B' H') (fun N kk70 P => ?_) ?_
   ·skip
    refine h_tand ?_
    refine h_test ?_
    refine h_op (h_var rfl (h_c (h_eqI ?_)))
    refine h_bl ?_
    refine h_ite (fun c1 => ?_) (fun c1 => ?_)
    ·replace P := P.iteT c1
     refine h_test ?_
     refine h_op (h_var rfl (h_c (h_I0 (h_bl ?_))))
     exact kk70 _ _ ⟨_, sj68⟩ P.ok
    ·replace P := P.iteF c1
     exact kk70 _ _ ⟨_, sj68⟩ P.ok
   rintro b71 H73 ⟨B72, s74⟩ P
   replace m_well_here := m_well_here.step s74 nm0
   replace st := st.go s74 go0
   replace w := s74.ok
   refine h_ite (fun c1 => ?_) (fun c1 => ?_)
   ·replace P := P.iteT c1
    refine h_ret (h_tup ?_)
    refine h_cons (h_c (h_cons (h_op (h_var rfl (h_c ?_)))))
    obtain ⟨p75, xs76, rfl, hs77, hr78⟩ := Rep.st w (r_slot.mono st.ex)
    obtain ⟨u79, hu, r80⟩ := RepL.at hr78 (i := 0) rfl
    refine h_ixT hs77 hu ?_
    cases r80
    refine h_cons (h_op (h_var rfl (h_c ?_)))
    obtain ⟨p81, xs82, hv, hs83, hr84⟩ := Rep.st w (r_slot.mono st.ex)
    cases hv
    obtain ⟨u85, hu, r86⟩ := RepL.at hr84 (i := 1) rfl
    refine h_ixT hs83 hu ?_
    cases r86
    refine h_cons (h_call (h_cons (h_var rfl (h_cons (h_var rfl (h_nil ?_))))))
    refine ⟨B72, p_well_here, x1.2, a_number, w, rfl, m_well_here, (P.bind).mono (fun x87 P => ?_) (fun _ z => z)⟩
    refine fun v91 B88 H89 s90 m_well_here r92 => ?_
    replace st := st.go s90 (go1 (.inl (by simp)))
    replace w := s90.ok
    cases r92
    refine h_nil ?_
    refine h_newT w (K := K) (.cons (Rep.str _) (.cons (Rep.int _) (.cons (Rep.int _) (.cons (Rep.int _) .nil)))) (fun p93 B94 H95 s96 r97 => ?_) (by show 4 ≤ sizeLine; decide)
    replace m_well_here := m_well_here.step s96 nm0
    replace st := st.go s96 go0
    replace w := s96.ok
    replace r97 : Rep K B94 (.ref p93) (enc (⟨("still" : Str), a_slot.a, a_slot.b, x87.1⟩ : (Tp4 Str Int Int Int))) := r97
    exact P.ok _ _ _ st m_well_here r97
   ·replace P := P.iteF c1
    refine h_next ?_
    refine h_nx ?_
    refine h_ret (h_tup ?_)
    refine h_cons (h_c (h_cons (h_op (h_var rfl (h_c ?_)))))
    obtain ⟨p98, xs99, rfl, hs100, hr101⟩ := Rep.st w (r_slot.mono st.ex)
    obtain ⟨u102, hu, r103⟩ := RepL.at hr101 (i := 0) rfl
    refine h_ixT hs100 hu ?_
    cases r103
    refine h_cons (h_op (h_var rfl (h_c ?_)))
    obtain ⟨p104, xs105, hv, hs106, hr107⟩ := Rep.st w (r_slot.mono st.ex)
    cases hv
    obtain ⟨u108, hu, r109⟩ := RepL.at hr107 (i := 1) rfl
    refine h_ixT hs106 hu ?_
    cases r109
    refine h_cons (h_cb (h_cons (h_lcR1E ?_)))
    refine h_cons (h_var rfl (h_nil ?_))
    obtain ⟨gz110, P⟩ := P.guard
    refine h_lcR1 P (fun Dl (acc : List D) (a : (List Int)) H' => ∃ B', Stp [p_well_here] B72 H73 B' H' ∧ H73 Dl = none ∧ Mu K B' H' Dl (acc.map enc) ∧ p_well_here ≠ Dl ∧ Mu K B' H' p_well_here (a.map enc)) (fun Dl hD => ⟨_, Stp.newM w hD, hD, Mu.new w hD .nil, Mu.ne m_well_here hD, m_well_here.step (Stp.newM (W := []) w hD) nm0⟩) ?_ ?_ gz110
    ·rintro Dl111 N112 T113 x114 acc117 a118 H119 ⟨B120, s121, hD122, m123, ne127, m_well_here⟩ hlox114 hhix114 hz124 kk125 kn126 P
     have wj129 := w
     have sj128 := s121
     have n130 := st.nn hD122
     replace st := st.go s121 (go1 (.inl (by simp)))
     replace w := s121.ok
     refine h_gname ?_
     refine h_lcT rfl ?_
     refine h_call (h_cons (h_var rfl (h_cons (h_var rfl (h_cons (h_var rfl (h_nil ?_)))))))
     refine ⟨B120, p_well_here, a118, a_number, a_wide, w, rfl, m_well_here, (P.bind).mono (fun x131 P => ?_) (fun _ z => z)⟩
     refine fun v135 B132 H133 s134 m_well_here r136 => ?_
     replace m123 := m123.step s134 (nm1 ne127.symm)
     replace st := st.go s134 (go1 (.inl (by simp)))
     replace sj128 := sj128.go s134 (go1 (.inl (by simp)))
     replace w := s134.ok
     refine h_app (b := x131.1) w m123 r136 hz124 (fun H137 s138 m123 => ?_)
     replace m_well_here := m_well_here.step s138 (nm1 ne127)
     replace st := st.go s138 (go1 (.inr n130))
     replace sj128 := sj128.go s138 (go1 (.inr hD122))
     replace w := s138.ok
     exact kk125 x131.1 x131.2 _ ⟨_, sj128, hD122, m123, ne127, m_well_here⟩ P.ok
    ·rintro Dl111 acc117 a118 H119 ⟨B120, s121, hD122, m123, ne127, m_well_here⟩ P
     have n139 := st.nn hD122
     replace st := st.go s121 (go1 (.inl (by simp)))
     replace w := s121.ok
     replace P := P.un2
     obtain ⟨B144, e140, k141, g142, r143⟩ := Mu.keep m123
     replace st := g142 _ _ _ st w0 n139
     replace m_well_here := m_well_here.kp e140 k141 ne127
     replace w := st.ok
     replace r143 : Rep K B144 (.ref Dl111) (enc acc117) := r143
     refine h_nil ?_
     obtain ⟨p145, xs146, hv, hs147, hr148⟩ := Rep.sq w r143
     cases hv
     refine h_tupL hs147 (h_nwT w (K := K) hr148 (fun p149 B150 H151 s152 r153 => ?_))
     replace m_well_here := m_well_here.step s152 nm0
     replace st := st.go s152 go0
     replace w := s152.ok
     refine h_nil ?_
     refine h_newT w (K := K) (.cons (Rep.str _) (.cons (Rep.int _) (.cons (Rep.int _) (.cons r153 .nil)))) (fun p154 B155 H156 s157 r158 => ?_) (by show 4 ≤ sizeLine; decide)
     replace m_well_here := m_well_here.step s157 nm0
     replace st := st.go s157 go0
     replace w := s157.ok
     replace r158 : Rep K B155 (.ref p154) (enc (⟨("woven" : Str), a_slot.a, a_slot.b, (.tup (acc117.map enc) : D)⟩ : (Tp4 Str Int Int D))) := r158
     exact P.ok _ _ _ st m_well_here r158
theorem ok__law_slots {f : Addr} {fd : FuncData}  (F : Fun K "_law_slots" "_law_slots" s__law_slots f fd) (X__law_draw : Cal Pr wo K mg base "_law_draw" ["_law_well_here", "_law_many"] CX0 1 (sp__law_draw K)) (bI_range : mg "range" = none) : FnOk Pr wo K mg base CX0 2 f fd ["_law_well_here", "_law_many"] (sp__law_slots K) := by
 obtain ⟨_, _, g__law_draw, k__law_draw, b__law_draw, G__law_draw⟩ := X__law_draw
 refine F.ok sc__law_slots (fun vs H Q E h => ?_) (fun cdv A outer s H0 vs Q E hr h => ?_)
 ·obtain ⟨_, _, _, _, _, rfl, _⟩ := h; rfl
 ·obtain ⟨B0, p_well_here, a_well_here, a_many, w, rfl, m_well_here, P⟩ := h
  have hu := hu_of hr
  have hr1 : Room 1 _ := hr.mono (by decide)
  refine ⟨_, (pss_cons (ps_set (i := 2) sc__law_slots.nd rfl (.inl rfl) (pe_ix (r := rIxL K) ix_list (pe_lst (pa_cons pe_int (pa_cons pe_int (pa_cons pe_int (pa_cons (pe_op op_pow pe_int pe_int) pa_nil))))) (pe_call G__law_draw hr1 rfl g__law_draw k__law_draw b__law_draw .nil pass0 (pa_cons (pv 0) (pa_cons pe_int pa_nil))) (fun _ _ => rfl)))
   (pss_cons (ps_set (i := 3) sc__law_slots.nd rfl (.inl rfl) (pe_op op_mulW (pe_call G__law_draw hr1 rfl g__law_draw k__law_draw b__law_draw .nil pass0 (pa_cons (pv 0) (pa_cons pe_int pa_nil))) (pv 2)))
   (pss_cons (ps_set (i := 4) sc__law_slots.nd rfl (.inl rfl) (pe_lst pa_nil))
   (pss_cons (ps_for PassesOwn.never rfl (pi_range1 (by rfl) bI_range (pa_cons (pv 1) pa_nil)) (pg_name (i := 5) sc__law_slots.nd rfl (.inl rfl)) (pss_cons (ps_set (i := 6) sc__law_slots.nd rfl (.inl rfl) (pe_op op_add pe_int (pe_call G__law_draw hr1 rfl g__law_draw k__law_draw b__law_draw .nil pass0 (pa_cons (pv 0) (pa_cons (pe_op op_mul pe_int (pv 2)) pa_nil)))))
   (pss_cons (ps_expr (pe_bm PySem.F.plainAttrs_list PySem.F.slot_list_append PySem.F.type_list_append mt_append (pv 4) (pa_cons (pe_tup (pa_cons (pv 3) (pa_cons (pv 6) pa_nil))) pa_nil)))
   (pss_one (ps_set (i := 3) sc__law_slots.nd rfl (.inl rfl) (pe_op op_add (pe_op op_add (pv 3) (pv 6)) (pe_op op_mulW (pe_ix (r := rIxL K) ix_list (pe_lst (pa_cons pe_int (pa_cons pe_int (pa_cons pe_int (pa_cons pe_int pa_nil))))) (pe_call G__law_draw hr1 rfl g__law_draw k__law_draw b__law_draw .nil pass0 (pa_cons (pv 0) (pa_cons pe_int pa_nil))) (fun _ _ => rfl)) (pe_call G__law_draw hr1 rfl g__law_draw k__law_draw b__law_draw .nil pass0 (pa_cons (pv 0) (pa_cons (pe_op op_mul pe_int (pv 2)) pa_nil))))))))))
   (pss_one (ps_ret (pv 4))))))), ?_⟩
  unfold l_slots at P
  have st := Stp.refl (W := [p_well_here]) w
  refine h_set (h_op (h_lst (h_cons (h_c (h_cons (h_c (h_cons (h_c (h_cons ?_)))))))))
  refine h_op (h_c (h_c (h_pow (k := 1000000) (by decide +kernel) (by decide +kernel) ?_)))
  refine h_nil ?_
  refine h_newL w (ds := (([1, 1, 40, 1000000] : List Int)).map enc) (K := K) (.cons (Rep.int _) (.cons (Rep.int _) (.cons (Rep.int _) (.cons (Rep.int _) .nil)))) (fun p1 B2 H3 s4 r5 => ?_) (by show 4 ≤ sizeLine; decide)
  replace m_well_here := m_well_here.step s4 nm0
  replace st := st.go s4 go0
  replace w := s4.ok
  replace r5 : Rep K B2 (.ref p1) (enc ([1, 1, 40, 1000000] : List Int)) := r5
  refine h_call (h_cons (h_var rfl (h_cons (h_c (h_nil ?_)))))
  refine ⟨B2, p_well_here, a_well_here, 4, w, rfl, m_well_here, (P.bind).mono (fun x6 P => ?_) (fun _ z => z)⟩
  refine fun v10 B7 H8 s9 m_well_here r11 => ?_
  replace r5 := r5.mono s9.ex
  replace st := st.go s9 (go1 (.inl (by simp)))
  replace w := s9.ok
  cases r11
  obtain ⟨p12, xs13, hv, hs14, hr15⟩ := Rep.sq w r5
  cases hv
  obtain ⟨x16, hx17, P⟩ := P.ix
  obtain ⟨u18, hu, r19⟩ := RepL.atE hr15 hx17
  refine h_ixL hs14 hu ?_
  cases r19
  refine h_set (h_op (h_call (h_cons (h_var rfl (h_cons (h_c (h_nil ?_)))))))
  refine ⟨B7, p_well_here, x6.2, 3, w, rfl, m_well_here, (P.bind).mono (fun x20 P => ?_) (fun _ z => z)⟩
  refine fun v24 B21 H22 s23 m_well_here r25 => ?_
  replace st := st.go s23 (go1 (.inl (by simp)))
  replace w := s23.ok
  cases r25
  refine h_var rfl ?_
  obtain ⟨gd, P⟩ := P.guard
  refine h_I gd ?_
  replace P := P.lt
  generalize hx : (x20.1 * x16) = x26 at P ⊢
  refine h_set (h_lst (h_nil ?_))
  refine h_newM w (ds := (([] : List Qf)).map enc) (K := K) .nil (fun p27 H28 hn31 s29 m30 => ?_) (by show 0 ≤ sizeLine; decide)
  have n32 := st.nn hn31
  have ne33 := Mu.ne m_well_here hn31
  replace m_well_here := m_well_here.step s29 nm0
  replace st := st.go s29 go0
  replace w := s29.ok
  refine h_seq (h_rng1 ?_)
  refine h_cons (h_var rfl (h_nil ?_))
  obtain ⟨gz34, P⟩ := P.guard
  have wj36 := w
  have sj35 := Stp.refl (W := [p_well_here, p27]) w
  refine h_forR1 P gz34 (fun (a : Int × (List Int) × (List Qf)) σ' H' => ∃ (B' : Hp) (o__law_lasts : Option V) (o__law_k : Option V), Stp [p_well_here, p27] B21 H28 B' H' ∧ σ' = [some ((.ref p_well_here)), some (.int a_many), some (.int x16), some (.int a.1), some ((.ref p27)), o__law_k, o__law_lasts] ∧ Mu K B' H' p_well_here (a.2.1.map enc) ∧ Mu K B' H' p27 (a.2.2.map enc)) ⟨_, _, _, sj35, rfl, m_well_here, m30⟩ ?_ ?_
  ·rintro N37 T38 x43 a42 _ H47 ⟨B46, o49, o50, s48, rfl, m_well_here, m30⟩ hlox43 hhix43 kk39 kr40 kb41 P
   replace st := st.go s48 (go2 (.inl (by simp)) (.inr n32))
   replace w := s48.ok
   have sj35 := s48
   refine h_gname ?_
   refine h_set (h_op (h_c (h_call (h_cons (h_var rfl (h_cons (h_op (h_c (h_var rfl (h_I (.inl ⟨by decide +kernel, by decide +kernel⟩) ?_))))))))))
   refine h_nil ?_
   refine ⟨B46, p_well_here, a42.2.1, (6 * x16), w, rfl, m_well_here, (P.bind).mono (fun x51 P => ?_) (fun _ z => z)⟩
   refine fun v55 B52 H53 s54 m_well_here r56 => ?_
   replace m30 := m30.step s54 (nm1 ne33.symm)
   replace st := st.go s54 (go1 (.inl (by simp)))
   replace sj35 := sj35.go s54 (go1 (.inl (by simp)))
   replace w := s54.ok
   cases r56
   refine h_I0 ?_
   replace P := P.lt
   generalize hx : (1 + x51.1) = x57 at P ⊢
   refine h_seq (h_drop ?_)
   refine h_bm ?_
   refine h_var rfl (h_bmL m30 ?_)
   refine h_cons (h_tup ?_)
   refine h_cons (h_var rfl (h_cons (h_var rfl (h_nil ?_))))
   refine h_newT w (K := K) (.cons (Rep.int _) (.cons (Rep.int _) .nil)) (fun p58 B59 H60 s61 r62 => ?_) (by show 2 ≤ sizeLine; decide)
   replace m_well_here := m_well_here.step s61 nm0
   replace m30 := m30.step s61 nm0
   replace st := st.go s61 go0
   replace sj35 := sj35.go s61 go0
   replace w := s61.ok
   replace r62 : Rep K B59 (.ref p58) (enc (⟨a42.1, x57⟩ : Qf)) := r62
   refine h_nil ?_
   obtain ⟨gd, P⟩ := P.guard
   refine h_append (b := (⟨a42.1, x57⟩ : Qf)) w m30 r62 gd (fun H63 s64 m30 => ?_)
   replace m_well_here := m_well_here.step s64 (nm1 ne33)
   replace st := st.go s64 (go1 (.inr n32))
   replace sj35 := sj35.go s64 (go1 (.inl (by simp)))
   replace w := s64.ok
   refine h_nx ?_
   refine h_set1 ?_
   refine h_op (h_op (h_var rfl (h_var rfl (h_I0 (h_op (h_op (h_lst (h_cons (h_c (h_cons (h_c (h_cons (h_c (h_cons (h_c (h_nil ?_))))))))))))))))
   refine h_newL w (ds := (([0, 0, 0, 1] : List Int)).map enc) (K := K) (.cons (Rep.int _) (.cons (Rep.int _) (.cons (Rep.int _) (.cons (Rep.int _) .nil)))) (fun p65 B66 H67 s68 r69 => ?_) (by show 4 ≤ sizeLine; decide)
   replace m_well_here := m_well_here.step s68 nm0
   replace m30 := m30.step s68 nm0
   replace st := st.go s68 go0
   replace sj35 := sj35.go s68 go0
   replace w := s68.ok
   replace r69 : Rep K B66 (.ref p65) (enc ([0, 0, 0, 1] : List Int)) := r69
   refine h_call (h_cons (h_var rfl (h_cons (h_c (h_nil ?_)))))
   refine ⟨B66, p_well_here, x51.2, 4, w, rfl, m_well_here, (P.bind).mono (fun x70 P => ?_) (fun _ z => z)⟩
   refine fun v74 B71 H72 s73 m_well_here r75 => ?_
   replace m30 := m30.step s73 (nm1 ne33.symm)
   replace r69 := r69.mono s73.ex
   replace st := st.go s73 (go1 (.inl (by simp)))
   replace sj35 := sj35.go s73 (go1 (.inl (by simp)))
   replace w := s73.ok
   cases r75
   obtain ⟨p76, xs77, hv, hs78, hr79⟩ := Rep.sq w r69
   cases hv
   obtain ⟨x80, hx81, P⟩ := P.ix
   obtain ⟨u82, hu, r83⟩ := RepL.atE hr79 hx81
   refine h_ixL hs78 hu ?_
   cases r83
   refine h_call (h_cons (h_var rfl (h_cons (h_op (h_c (h_var rfl (h_I (.inl ⟨by decide +kernel, by decide +kernel⟩) ?_)))))))
   refine h_nil ?_
   refine ⟨B71, p_well_here, x70.2, (3 * x16), w, rfl, m_well_here, (P.bind).mono (fun x84 P => ?_) (fun _ z => z)⟩
   refine fun v88 B85 H86 s87 m_well_here r89 => ?_
   replace m30 := m30.step s87 (nm1 ne33.symm)
   replace st := st.go s87 (go1 (.inl (by simp)))
   replace sj35 := sj35.go s87 (go1 (.inl (by simp)))
   replace w := s87.ok
   cases r89
   obtain ⟨gd, P⟩ := P.guard
   refine h_I gd ?_
   refine h_I0 ?_
   replace P := P.lt
   generalize hx : ((a42.1 + x57) + (x80 * x84.1)) = x90 at P ⊢
   refine h_nx ?_
   exact kk39 (x90, x84.2, (a42.2.2 ++ [(⟨a42.1, x57⟩ : Qf)])) _ _ ⟨_, _, _, sj35, rfl, m_well_here, m30⟩ P.ok
  ·rintro a91 _ H93 ⟨B92, o95, o96, s94, rfl, m_well_here, m30⟩ P
   replace st := st.go s94 (go2 (.inl (by simp)) (.inr n32))
   replace w := s94.ok
   refine h_nx ?_
   refine h_ret (h_var rfl ?_)
   exact P.ok _ _ _ st n32 m30 m_well_here
theorem ok__law_leaves {f : Addr} {fd : FuncData}  (F : Fun K "_law_leaves" "_law_leaves" s__law_leaves f fd) (X__law_slots : Cal Pr wo K mg base "_law_slots" ["_law_well_here", "_law_many"] CX0 2 (sp__law_slots K)) (X__law_draw : Cal Pr wo K mg base "_law_draw" ["_law_well_here", "_law_many"] CX0 1 (sp__law_draw K)) (X__law_leaf : Cal Pr wo K mg base "_law_leaf" ["_law_well_here", "_law_number", "_law_wide", "_law_slot"] CX0 4 (sp__law_leaf K)) (bI_range : mg "range" = none) (bI_len : mg "len" = none) : FnOk Pr wo K mg base CX0 5 f fd ["_law_well_here", "_law_many", "_law_wide"] (sp__law_leaves K) := by
 obtain ⟨_, _, g__law_slots, k__law_slots, b__law_slots, G__law_slots⟩ := X__law_slots
 obtain ⟨_, _, g__law_draw, k__law_draw, b__law_draw, G__law_draw⟩ := X__law_draw
 obtain ⟨_, _, g__law_leaf, k__law_leaf, b__law_leaf, G__law_leaf⟩ := X__law_leaf
 refine F.ok sc__law_leaves (fun vs H Q E h => ?_) (fun cdv A outer s H0 vs Q E hr h => ?_)
 ·obtain ⟨_, _, _, _, _, _, rfl, _⟩ := h; rfl
 ·obtain ⟨B0, p_well_here, a_well_here, a_many, a_wide, w, rfl, m_well_here, P⟩ := h
  have w0 := w
  have hr1 : Room 1 _ := hr.mono (by decide)
  have hr2 : Room 2 _ := hr.mono (by decide)
  have hr4 : Room 4 _ := hr.mono (by decide)
  refine ⟨_, (pss_cons (ps_set (i := 3) sc__law_leaves.nd rfl (.inl rfl) (pe_cmpR op_eq (pe_call G__law_draw hr1 rfl g__law_draw k__law_draw b__law_draw .nil pass0 (pa_cons (pv 0) (pa_cons pe_int pa_nil))) pe_int (nomark _)))
   (pss_cons (ps_set (i := 4) sc__law_leaves.nd rfl (.inl rfl) (pe_call G__law_slots hr2 rfl g__law_slots k__law_slots b__law_slots .nil pass0 (pa_cons (pv 0) (pa_cons (pv 1) pa_nil))))
   (pss_cons (ps_set (i := 5) sc__law_leaves.nd rfl (.inl rfl) (pe_lst pa_nil))
   (pss_cons (ps_for PassesOwn.never rfl (pi_range1 (by rfl) bI_range (pa_cons (pv 1) pa_nil)) (pg_name (i := 6) sc__law_leaves.nd rfl (.inl rfl)) (pss_cons (ps_set (i := 7) sc__law_leaves.nd rfl (.inl rfl) pe_int)
   (pss_cons (ps_if (pt_val (pv 3)) (pss_one (ps_set (i := 7) sc__law_leaves.nd rfl (.inl rfl) (pe_call G__law_draw hr1 rfl g__law_draw k__law_draw b__law_draw .nil pass0 (pa_cons (pv 0) (pa_cons (pe_callB (r := rLenY K) cr_len (by rfl) bI_len PySem.boot_len (pa_cons (pv 4) pa_nil)) pa_nil))))) pss_nil)
   (pss_one (ps_expr (pe_bm PySem.F.plainAttrs_list PySem.F.slot_list_append PySem.F.type_list_append mt_append (pv 5) (pa_cons (pe_call G__law_leaf hr4 rfl g__law_leaf k__law_leaf b__law_leaf .nil pass0 (pa_cons (pv 0) (pa_cons (pv 6) (pa_cons (pv 2) (pa_cons (pe_bm PySem.F.plainAttrs_list PySem.F.slot_list_pop PySem.F.type_list_pop mt_popAt (pv 4) (pa_cons (pv 7) pa_nil)) pa_nil))))) pa_nil)))))))
   (pss_one (ps_ret (pv 5))))))), ?_⟩
  unfold l_leaves at P
  have st := Stp.refl (W := [p_well_here]) w
  refine h_set (h_op (h_call (h_cons (h_var rfl (h_cons (h_c (h_nil ?_)))))))
  refine ⟨B0, p_well_here, a_well_here, 3, w, rfl, m_well_here, (P.bind).mono (fun x1 P => ?_) (fun _ z => z)⟩
  refine fun v5 B2 H3 s4 m_well_here r6 => ?_
  replace st := st.go s4 (go1 (.inl (by simp)))
  replace w := s4.ok
  cases r6
  refine h_c (h_eqI ?_)
  replace P := P.lt
  generalize hx : (decide (x1.1 = 0)) = x7 at P ⊢
  refine h_set (h_call (h_cons (h_var rfl (h_cons (h_var rfl (h_nil ?_))))))
  refine ⟨B2, p_well_here, x1.2, a_many, w, rfl, m_well_here, (P.bind).mono (fun x8 P => ?_) (fun _ z => z)⟩
  refine fun p14 B9 H10 s11 hn15 m16 m17 => ?_
  have n18 := st.nn hn15
  have ne19 := Mu.ne m_well_here hn15
  replace st := st.go s11 (go1 (.inl (by simp)))
  replace w := s11.ok
  refine h_set (h_lst (h_nil ?_))
  refine h_newM w (ds := (([] : List D)).map enc) (K := K) .nil (fun p20 H21 hn24 s22 m23 => ?_) (by show 0 ≤ sizeLine; decide)
  have n25 := st.nn hn24
  have ne26 := Mu.ne m17 hn24
  have ne27 := Mu.ne m16 hn24
  replace m17 := m17.step s22 nm0
  replace m16 := m16.step s22 nm0
  replace st := st.go s22 go0
  replace w := s22.ok
  refine h_seq (h_rng1 ?_)
  refine h_cons (h_var rfl (h_nil ?_))
  obtain ⟨gz28, P⟩ := P.guard
  have wj30 := w
  have sj29 := Stp.refl (W := [p_well_here, p20, p14]) w
  refine h_forR1 P gz28 (fun (a : (List Int) × (List D) × (List Qf)) σ' H' => ∃ (B' : Hp) (o__law_at : Option V) (o__law_number : Option V), Stp [p_well_here, p20, p14] B9 H21 B' H' ∧ σ' = [some ((.ref p_well_here)), some (.int a_many), some (.int a_wide), some (.bl x7), some ((.ref p14)), some ((.ref p20)), o__law_number, o__law_at] ∧ Mu K B' H' p_well_here (a.1.map enc) ∧ Mu K B' H' p20 (a.2.1.map enc) ∧ Mu K B' H' p14 (a.2.2.map enc)) ⟨_, _, _, sj29, rfl, m17, m23, m16⟩ ?_ ?_
  ·rintro N31 T32 x37 a36 _ H41 ⟨B40, o43, o44, s42, rfl, m17, m23, m16⟩ hlox37 hhix37 kk33 kr34 kb35 P
   replace st := st.go s42 (go3 (.inl (by simp)) (.inr n25) (.inr n18))
   replace w := s42.ok
   have sj29 := s42
   refine h_gname ?_
   refine h_set (h_c ?_)
   have wj46 := w
   have sj45 := Stp.refl (W := [p_well_here]) w
   refine h_joinS P (fun (a : Int × (List Int)) σ' H' => ∃ (B' : Hp), Stp [p_well_here] B40 H41 B' H' ∧ σ' = [some ((.ref p_well_here)), some (.int a_many), some (.int a_wide), some (.bl x7), some ((.ref p14)), some ((.ref p20)), some (.int x37), some (.int a.1)] ∧ Mu K B' H' p_well_here (a.2.map enc)) (fun N kk47 P => h_if ?_) ?_
   ·skip
    refine h_tB ?_
    refine h_var rfl (h_bl ?_)
    refine h_ite (fun c1 => ?_) (fun c1 => ?_)
    ·replace P := P.iteT c1
     refine h_set1 ?_
     refine h_call (h_cons (h_var rfl (h_cons (h_cb (h_cons (h_var rfl (h_nil ?_)))))))
     obtain ⟨xs49, hv, hs50, hr51⟩ := Mu.sq m16
     refine h_len hs50 hr51 ?_
     refine h_nil ?_
     refine ⟨B40, p_well_here, a36.1, (a36.2.2.length : Int), w, rfl, m17, (P.bind).mono (fun x52 P => ?_) (fun _ z => z)⟩
     refine fun v56 B53 H54 s55 m17 r57 => ?_
     replace m16 := m16.step s55 (nm1 ne19.symm)
     replace m23 := m23.step s55 (nm1 ne26.symm)
     replace st := st.go s55 (go1 (.inl (by simp)))
     replace sj29 := sj29.go s55 (go1 (.inl (by simp)))
     replace sj45 := sj45.go s55 (go1 (.inl (by simp)))
     replace w := s55.ok
     cases r57
     refine h_nx ?_
     exact kk47 (x52.1, x52.2) _ _ ⟨_, sj45, rfl, m17⟩ P.ok
    ·replace P := P.iteF c1
     refine h_next ?_
     refine h_nx ?_
     exact kk47 (0, a36.1) _ _ ⟨_, sj45, rfl, m17⟩ P.ok
   rintro a58 _ H60 ⟨B59, s61, rfl, m17⟩ P
   replace m16 := m16.step s61 (nm1 ne19.symm)
   replace m23 := m23.step s61 (nm1 ne26.symm)
   replace st := st.go s61 (go1 (.inl (by simp)))
   replace sj29 := sj29.go s61 (go1 (.inl (by simp)))
   replace w := s61.ok
   refine h_drop ?_
   refine h_bm ?_
   refine h_var rfl (h_bmL m23 ?_)
   refine h_cons (h_call (h_cons (h_var rfl (h_cons (h_var rfl (h_cons (h_var rfl (h_cons (h_bm ?_)))))))))
   refine h_var rfl (h_bmL m16 ?_)
   refine h_cons (h_var rfl (h_nil ?_))
   obtain ⟨y66, hi, hx65, P⟩ := P.pop
   refine h_popL w m16 hi hx65 (fun u68 H62 s63 m16 r69 => ?_)
   replace m17 := m17.step s63 (nm1 ne19)
   replace m23 := m23.step s63 (nm1 ne27.symm)
   replace st := st.go s63 (go1 (.inr n18))
   replace sj29 := sj29.go s63 (go1 (.inl (by simp)))
   replace w := s63.ok
   generalize hl : (y66, List.eraseIdx a36.2.2 (Int.toNat a58.1)) = x64 at P
   obtain rfl : y66 = x64.1 := by rw [← hl]
   have hl2 : List.eraseIdx a36.2.2 (Int.toNat a58.1) = x64.2 := by rw [← hl]
   rw [hl2] at m16
   refine h_nil ?_
   refine ⟨B59, p_well_here, a58.2, x37, a_wide, u68, x64.1, w, rfl, m17, r69, (P.bind).mono (fun x71 P => ?_) (fun _ z => z)⟩
   refine fun v75 B72 H73 s74 m17 r76 => ?_
   replace m16 := m16.step s74 (nm1 ne19.symm)
   replace m23 := m23.step s74 (nm1 ne26.symm)
   replace r69 := r69.mono s74.ex
   replace st := st.go s74 (go1 (.inl (by simp)))
   replace sj29 := sj29.go s74 (go1 (.inl (by simp)))
   replace w := s74.ok
   refine h_nil ?_
   obtain ⟨gd, P⟩ := P.guard
   refine h_append (b := x71.1) w m23 r76 gd (fun H77 s78 m23 => ?_)
   replace m17 := m17.step s78 (nm1 ne26)
   replace m16 := m16.step s78 (nm1 ne27)
   replace st := st.go s78 (go1 (.inr n25))
   replace sj29 := sj29.go s78 (go1 (.inl (by simp)))
   replace w := s78.ok
   refine h_nx ?_
   exact kk33 (x71.2, (a36.2.1 ++ [x71.1]), x64.2) _ _ ⟨_, _, _, sj29, rfl, m17, m23, m16⟩ P.ok
  ·rintro a79 _ H81 ⟨B80, o83, o84, s82, rfl, m17, m23, m16⟩ P
   replace st := st.go s82 (go3 (.inl (by simp)) (.inr n25) (.inr n18))
   replace w := s82.ok
   refine h_nx ?_
   refine h_ret (h_var rfl ?_)
   obtain ⟨B89, e85, k86, g87, r88⟩ := Mu.keep m23
   replace st := g87 _ _ _ st w0 n25
   replace m17 := m17.kp e85 k86 ne26
   replace m16 := m16.kp e85 k86 ne27
   replace w := st.ok
   replace r88 : Rep K B89 (.ref p20) (enc a79.2.1) := r88
   exact P.ok _ _ _ st m17 r88
theorem ok__law_needs {f : Addr} {fd : FuncData}  (F : Fun K "_law_needs" "_law_needs" s__law_needs f fd)  : FnOk Pr wo K mg base CX0 1 f fd ["_law_leaves_here", "_law_number", "_law_cell"] (sp__law_needs K) := by
 refine F.ok sc__law_needs (fun vs H Q E h => ?_) (fun cdv A outer s H0 vs Q E hr h => ?_)
 ·obtain ⟨_, _, _, _, _, _, rfl, _⟩ := h; rfl
 ·obtain ⟨B0, v_leaves_here, a_leaves_here, a_number, a_cell, w, rfl, r_leaves_here, P⟩ := h
  have hu := hu_of hr
  have hu64 := hu64_of hr
  refine ⟨_, (pss_cons (ps_set (i := 3) sc__law_needs.nd rfl (.inl rfl) (pe_ix (r := rIxL K) ix_list (pv 0) (pv 1) (fun _ _ => rfl)))
   (pss_cons (ps_if (pt_cmpR (r := rEqD K) (op_eqD hu64) (pe_ix (r := rIxT K) ix_tup (pv 3) pe_int (fun _ _ => rfl)) pe_str (nomark _)) (pss_one (ps_ret (pe_lst pa_nil))) pss_nil)
   (pss_cons (ps_if (pt_cmpR (r := rEqD K) (op_eqD hu64) (pe_ix (r := rIxT K) ix_tup (pv 3) pe_int (fun _ _ => rfl)) pe_str (nomark _)) (pss_one (ps_ret (pe_lst (pa_cons (pe_tup (pa_cons (pe_op op_sub (pv 1) (pe_ix (r := rIxT K) ix_tup (pv 3) pe_int (fun _ _ => rfl))) (pa_cons (pv 2) pa_nil))) pa_nil)))) pss_nil)
   (pss_cons (ps_set (i := 4) sc__law_needs.nd rfl (.inl rfl) (pe_ix (r := rIxT K) ix_tup (pe_ix (r := rIxT K) ix_tup (pv 3) pe_int (fun _ _ => rfl)) (pv 2) (fun _ _ => rfl)))
   (pss_cons (ps_if (pt_cmpR (r := rEqD K) (op_eqD hu64) (pe_ix (r := rIxT K) ix_tup (pv 4) pe_int (fun _ _ => rfl)) pe_str (nomark _)) (pss_one (ps_ret (pe_lst pa_nil))) pss_nil)
   (pss_cons (ps_if (pt_cmpR (r := rEqD K) (op_eqD hu64) (pe_ix (r := rIxT K) ix_tup (pv 4) pe_int (fun _ _ => rfl)) pe_str (nomark _)) (pss_one (ps_ret (pe_lst (pa_cons (pe_tup (pa_cons (pe_op op_sub (pv 1) (pe_ix (r := rIxT K) ix_tup (pv 4) pe_int (fun _ _ => rfl))) (pa_cons (pe_ix (r := rIxT K) ix_tup (pv 4) pe_int (fun _ _ => rfl)) pa_nil))) pa_nil)))) pss_nil)
   (pss_one (ps_ret (pe_lst (pa_cons (pe_tup (pa_cons (pe_op op_sub (pv 1) (pe_ix (r := rIxT K) ix_tup (pv 4) pe_int (fun _ _ => rfl))) (pa_cons (pe_ix (r := rIxT K) ix_tup (pv 4) pe_int (fun _ _ => rfl)) pa_nil))) (pa_cons (pe_tup (pa_cons (pe_op op_sub (pv 1) (pe_ix (r := rIxT K) ix_tup (pv 4) pe_int (fun _ _ => rfl))) (pa_cons (pe_ix (r := rIxT K) ix_tup (pv 4) pe_int (fun _ _ => rfl)) pa_nil))) pa_nil))))))))))), ?_⟩
  unfold l_needs at P
  have st := Stp.refl (W := []) w
  refine h_set (h_op (h_var rfl (h_var rfl ?_)))
  obtain ⟨p1, xs2, rfl, hs3, hr4⟩ := Bor.sq (r_leaves_here.step st)
  obtain ⟨x5, hx6, P⟩ := P.ix
  obtain ⟨u7, hu, r8⟩ := RepL.atE hr4 hx6
  refine h_ixL hs3 hu ?_
  refine h_seq <| h_if ?_
  refine h_test ?_
  refine h_op (h_op (h_var rfl (h_c ?_)))
  obtain ⟨l9, hl10, P⟩ := P.asT
  have rc11 := r8
  rw [hl10] at rc11
  obtain ⟨p12, xs13, rfl, hs14, hr15⟩ := Rep.st w rc11
  obtain ⟨x16, hx17, P⟩ := P.ix
  obtain ⟨u18, hu, r19⟩ := RepL.atE hr15 hx17
  refine h_ixT hs14 hu ?_
  refine h_c ?_
  obtain ⟨gd, P⟩ := P.guard
  refine h_eqD (d := x16) (e := (enc ("full" : Str))) w r19 (Rep.str _) gd ?_
  refine h_bl ?_
  refine h_ite (fun c1 => ?_) (fun c1 => ?_)
  ·replace P := P.iteT c1
   refine h_ret (h_lst (h_nil ?_))
   refine h_newM w (ds := (([] : List (Int × Int))).map enc) (K := K) .nil (fun p20 H21 hn24 s22 m23 => ?_) (by show 0 ≤ sizeLine; decide)
   have n25 := st.nn hn24
   replace r8 := r8.mono s22.ex
   replace st := st.go s22 go0
   replace w := s22.ok
   exact P.ok _ _ _ st n25 m23
  ·replace P := P.iteF c1
   refine h_next ?_
   refine h_nx ?_
   refine h_seq <| h_if ?_
   refine h_test ?_
   refine h_op (h_op (h_var rfl (h_c ?_)))
   obtain ⟨l26, hl27, P⟩ := P.asT
   have rc28 := r8
   rw [hl27] at rc28
   obtain ⟨p29, xs30, hv, hs31, hr32⟩ := Rep.st w rc28
   cases hv
   obtain ⟨x33, hx34, P⟩ := P.ix
   obtain ⟨u35, hu, r36⟩ := RepL.atE hr32 hx34
   refine h_ixT hs31 hu ?_
   refine h_c ?_
   obtain ⟨gd, P⟩ := P.guard
   refine h_eqD (d := x33) (e := (enc ("still" : Str))) w r36 (Rep.str _) gd ?_
   refine h_bl ?_
   refine h_ite (fun c1 => ?_) (fun c1 => ?_)
   ·replace P := P.iteT c1
    refine h_ret (h_lst (h_cons (h_tup ?_)))
    refine h_cons (h_op (h_var rfl (h_op (h_var rfl (h_c ?_)))))
    obtain ⟨l37, hl38, P⟩ := P.asT
    have rc39 := r8
    rw [hl38] at rc39
    obtain ⟨p40, xs41, hv, hs42, hr43⟩ := Rep.st w rc39
    cases hv
    obtain ⟨x44, hx45, P⟩ := P.ix
    obtain ⟨u46, hu, r47⟩ := RepL.atE hr43 hx45
    refine h_ixT hs42 hu ?_
    obtain ⟨i48, hi49, P⟩ := P.asI
    have rc50 := r47
    rw [hi49] at rc50
    cases rc50
    refine h_I0 (h_cons (h_var rfl (h_nil ?_)))
    refine h_newP w (K := K) (a := (a_number - i48)) (b := a_cell) (fun p51 B52 H53 s54 r55 => ?_)
    replace r8 := r8.mono s54.ex
    replace st := st.go s54 go0
    replace w := s54.ok
    refine h_nil ?_
    refine h_newM w (ds := (([(((a_number - i48), a_cell) : Int × Int)] : List (Int × Int))).map enc) (K := K) (.cons r55 .nil) (fun p56 H57 hn60 s58 m59 => ?_) (by show 1 ≤ sizeLine; decide)
    have n61 := st.nn hn60
    replace r8 := r8.mono s58.ex
    replace st := st.go s58 go0
    replace w := s58.ok
    exact P.ok _ _ _ st n61 m59
   ·replace P := P.iteF c1
    refine h_next ?_
    refine h_nx ?_
    refine h_set (h_op (h_op (h_var rfl (h_c ?_))))
    obtain ⟨l62, hl63, P⟩ := P.asT
    have rc64 := r8
    rw [hl63] at rc64
    obtain ⟨p65, xs66, hv, hs67, hr68⟩ := Rep.st w rc64
    cases hv
    obtain ⟨x69, hx70, P⟩ := P.ix
    obtain ⟨u71, hu, r72⟩ := RepL.atE hr68 hx70
    refine h_ixT hs67 hu ?_
    refine h_var rfl ?_
    obtain ⟨l73, hl74, P⟩ := P.asT
    have rc75 := r72
    rw [hl74] at rc75
    obtain ⟨p76, xs77, rfl, hs78, hr79⟩ := Rep.st w rc75
    obtain ⟨x80, hx81, P⟩ := P.ix
    obtain ⟨u82, hu, r83⟩ := RepL.atE hr79 hx81
    refine h_ixT hs78 hu ?_
    refine h_seq <| h_if ?_
    refine h_test ?_
    refine h_op (h_op (h_var rfl (h_c ?_)))
    obtain ⟨l84, hl85, P⟩ := P.asT
    have rc86 := r83
    rw [hl85] at rc86
    obtain ⟨p87, xs88, rfl, hs89, hr90⟩ := Rep.st w rc86
    obtain ⟨x91, hx92, P⟩ := P.ix
    obtain ⟨u93, hu, r94⟩ := RepL.atE hr90 hx92
    refine h_ixT hs89 hu ?_
    refine h_c ?_
    obtain ⟨gd, P⟩ := P.guard
    refine h_eqD (d := x91) (e := (enc ("plain" : Str))) w r94 (Rep.str _) gd ?_
    refine h_bl ?_
    refine h_ite (fun c1 => ?_) (fun c1 => ?_)
    ·replace P := P.iteT c1
     refine h_ret (h_lst (h_nil ?_))
     refine h_newM w (ds := (([] : List (Int × Int))).map enc) (K := K) .nil (fun p95 H96 hn99 s97 m98 => ?_) (by show 0 ≤ sizeLine; decide)
     have n100 := st.nn hn99
     replace r8 := r8.mono s97.ex
     replace r83 := r83.mono s97.ex
     replace st := st.go s97 go0
     replace w := s97.ok
     exact P.ok _ _ _ st n100 m98
    ·replace P := P.iteF c1
     refine h_next ?_
     refine h_nx ?_
     refine h_seq <| h_if ?_
     refine h_test ?_
     refine h_op (h_op (h_var rfl (h_c ?_)))
     obtain ⟨l101, hl102, P⟩ := P.asT
     have rc103 := r83
     rw [hl102] at rc103
     obtain ⟨p104, xs105, hv, hs106, hr107⟩ := Rep.st w rc103
     cases hv
     obtain ⟨x108, hx109, P⟩ := P.ix
     obtain ⟨u110, hu, r111⟩ := RepL.atE hr107 hx109
     refine h_ixT hs106 hu ?_
     refine h_c ?_
     obtain ⟨gd, P⟩ := P.guard
     refine h_eqD (d := x108) (e := (enc ("moved" : Str))) w r111 (Rep.str _) gd ?_
     refine h_bl ?_
     refine h_ite (fun c1 => ?_) (fun c1 => ?_)
     ·replace P := P.iteT c1
      refine h_ret (h_lst (h_cons (h_tup ?_)))
      refine h_cons (h_op (h_var rfl (h_op (h_var rfl (h_c ?_)))))
      obtain ⟨l112, hl113, P⟩ := P.asT
      have rc114 := r83
      rw [hl113] at rc114
      obtain ⟨p115, xs116, hv, hs117, hr118⟩ := Rep.st w rc114
      cases hv
      obtain ⟨x119, hx120, P⟩ := P.ix
      obtain ⟨u121, hu, r122⟩ := RepL.atE hr118 hx120
      refine h_ixT hs117 hu ?_
      obtain ⟨i123, hi124, P⟩ := P.asI
      have rc125 := r122
      rw [hi124] at rc125
      cases rc125
      refine h_I0 (h_cons (h_op (h_var rfl (h_c ?_))))
      obtain ⟨l126, hl127, P⟩ := P.asT
      have rc128 := r83
      rw [hl127] at rc128
      obtain ⟨p129, xs130, hv, hs131, hr132⟩ := Rep.st w rc128
      cases hv
      obtain ⟨x133, hx134, P⟩ := P.ix
      obtain ⟨u135, hu, r136⟩ := RepL.atE hr132 hx134
      refine h_ixT hs131 hu ?_
      refine h_nil ?_
      obtain ⟨i142, hi143, P⟩ := P.asI
      have rc144 := r136
      rw [hi143] at rc144
      cases rc144
      refine h_newP w (K := K) (a := (a_number - i123)) (b := i142) (fun p137 B138 H139 s140 r141 => ?_)
      replace r8 := r8.mono s140.ex
      replace r83 := r83.mono s140.ex
      replace st := st.go s140 go0
      replace w := s140.ok
      refine h_nil ?_
      refine h_newM w (ds := (([(((a_number - i123), i142) : Int × Int)] : List (Int × Int))).map enc) (K := K) (.cons r141 .nil) (fun p145 H146 hn149 s147 m148 => ?_) (by show 1 ≤ sizeLine; decide)
      have n150 := st.nn hn149
      replace r8 := r8.mono s147.ex
      replace r83 := r83.mono s147.ex
      replace st := st.go s147 go0
      replace w := s147.ok
      exact P.ok _ _ _ st n150 m148
     ·replace P := P.iteF c1
      refine h_next ?_
      refine h_nx ?_
      refine h_ret (h_lst (h_cons (h_tup ?_)))
      refine h_cons (h_op (h_var rfl (h_op (h_var rfl (h_c ?_)))))
      obtain ⟨l151, hl152, P⟩ := P.asT
      have rc153 := r83
      rw [hl152] at rc153
      obtain ⟨p154, xs155, hv, hs156, hr157⟩ := Rep.st w rc153
      cases hv
      obtain ⟨x158, hx159, P⟩ := P.ix
      obtain ⟨u160, hu, r161⟩ := RepL.atE hr157 hx159
      refine h_ixT hs156 hu ?_
      obtain ⟨i162, hi163, P⟩ := P.asI
      have rc164 := r161
      rw [hi163] at rc164
      cases rc164
      refine h_I0 (h_cons (h_op (h_var rfl (h_c ?_))))
      obtain ⟨l165, hl166, P⟩ := P.asT
      have rc167 := r83
      rw [hl166] at rc167
      obtain ⟨p168, xs169, hv, hs170, hr171⟩ := Rep.st w rc167
      cases hv
      obtain ⟨x172, hx173, P⟩ := P.ix
      obtain ⟨u174, hu, r175⟩ := RepL.atE hr171 hx173
      refine h_ixT hs170 hu ?_
      refine h_nil ?_
      obtain ⟨i181, hi182, P⟩ := P.asI
      have rc183 := r175
      rw [hi182] at rc183
      cases rc183
      refine h_newP w (K := K) (a := (a_number - i162)) (b := i181) (fun p176 B177 H178 s179 r180 => ?_)
      replace r8 := r8.mono s179.ex
      replace r83 := r83.mono s179.ex
      replace st := st.go s179 go0
      replace w := s179.ok
      refine h_cons (h_tup ?_)
      refine h_cons (h_op (h_var rfl (h_op (h_var rfl (h_c ?_)))))
      obtain ⟨l184, hl185, P⟩ := P.asT
      have rc186 := r83
      rw [hl185] at rc186
      obtain ⟨p187, xs188, hv, hs189, hr190⟩ := Rep.st w rc186
      cases hv
      obtain ⟨x191, hx192, P⟩ := P.ix
      obtain ⟨u193, hu, r194⟩ := RepL.atE hr190 hx192
      refine h_ixT hs189 hu ?_
      obtain ⟨i195, hi196, P⟩ := P.asI
      have rc197 := r194
      rw [hi196] at rc197
      cases rc197
      refine h_I0 (h_cons (h_op (h_var rfl (h_c ?_))))
      obtain ⟨l198, hl199, P⟩ := P.asT
      have rc200 := r83
      rw [hl199] at rc200
      obtain ⟨p201, xs202, hv, hs203, hr204⟩ := Rep.st w rc200
      cases hv
      obtain ⟨x205, hx206, P⟩ := P.ix
      obtain ⟨u207, hu, r208⟩ := RepL.atE hr204 hx206
      refine h_ixT hs203 hu ?_
      refine h_nil ?_
      obtain ⟨i214, hi215, P⟩ := P.asI
      have rc216 := r208
      rw [hi215] at rc216
      cases rc216
      refine h_newP w (K := K) (a := (a_number - i195)) (b := i214) (fun p209 B210 H211 s212 r213 => ?_)
      replace r8 := r8.mono s212.ex
      replace r83 := r83.mono s212.ex
      replace r180 := r180.mono s212.ex
      replace st := st.go s212 go0
      replace w := s212.ok
      refine h_nil ?_
      refine h_newM w (ds := (([(((a_number - i162), i181) : Int × Int), (((a_number - i195), i214) : Int × Int)] : List (Int × Int))).map enc) (K := K) (.cons r180 (.cons r213 .nil)) (fun p217 H218 hn221 s219 m220 => ?_) (by show 2 ≤ sizeLine; decide)
      have n222 := st.nn hn221
      replace r8 := r8.mono s219.ex
      replace r83 := r83.mono s219.ex
      replace st := st.go s219 go0
      replace w := s219.ok
      exact P.ok _ _ _ st n222 m220
theorem ok__law_came {f : Addr} {fd : FuncData}  (F : Fun K "_law_came" "_law_came" s__law_came f fd) (X__law_draw : Cal Pr wo K mg base "_law_draw" ["_law_well_here", "_law_many"] CX0 1 (sp__law_draw K)) (bI_range : mg "range" = none) : FnOk Pr wo K mg base CX0 2 f fd ["_law_well_here", "_law_many"] (sp__law_came K) := by
 obtain ⟨_, _, g__law_draw, k__law_draw, b__law_draw, G__law_draw⟩ := X__law_draw
 refine F.ok sc__law_came (fun vs H Q E h => ?_) (fun cdv A outer s H0 vs Q E hr h => ?_)
 ·obtain ⟨_, _, _, _, _, rfl, _⟩ := h; rfl
 ·obtain ⟨B0, p_well_here, a_well_here, a_many, w, rfl, m_well_here, P⟩ := h
  have w0 := w
  have hr1 : Room 1 _ := hr.mono (by decide)
  refine ⟨_, (pss_cons (ps_set (i := 2) sc__law_came.nd rfl (.inl rfl) (pe_call G__law_draw hr1 rfl g__law_draw k__law_draw b__law_draw .nil pass0 (pa_cons (pv 0) (pa_cons pe_int pa_nil))))
   (pss_cons (ps_set (i := 3) sc__law_came.nd rfl (by first | exact Or.inl rfl | exact Or.inr rfl) (pe_call G__law_draw hr1 rfl g__law_draw k__law_draw b__law_draw .nil pass0 (pa_cons (pv 0) (pa_cons (pv 1) pa_nil))))
   (pss_cons (ps_if (pt_cmpR op_lt (pv 2) pe_int (nomark _)) (pss_one (ps_ret (pe_lc (own := [("_law_number", 4)]) rfl sc__law_came.nd (pi_range1 (by rfl) bI_range (pa_cons (pv 1) pa_nil)) (blkOk_by (N := ["_law_well_here", "_law_many", "_law_way_here", "_law_gone", "_law_number"]) (sc := defScope s__law_came) (by decide +kernel)) (fun _ _ _ _ _ => (pg_name (i := 4) sc__law_came.nd rfl (by first | exact Or.inl rfl | exact Or.inr rfl))) (fun _ _ _ _ _ => (pts_one (pt_cmpR op_ne (pv 4) (pv 3) (nomark _)))) (fun _ _ _ _ _ => (pv 4))))) pss_nil)
   (pss_cons (ps_if (pt_cmpR op_eq (pv 2) pe_int (nomark _)) (pss_one (ps_ret (pe_lst pa_nil))) pss_nil)
   (pss_cons (ps_if (pt_cmpR op_eq (pv 2) pe_int (nomark _)) (pss_one (ps_ret (pe_lc (own := [("_law_number", 4)]) rfl sc__law_came.nd (pi_range1 (by rfl) bI_range (pa_cons (pv 1) pa_nil)) (blkOk_by (N := ["_law_well_here", "_law_many", "_law_way_here", "_law_gone", "_law_number"]) (sc := defScope s__law_came) (by decide +kernel)) (fun _ _ _ _ _ => (pg_name (i := 4) sc__law_came.nd rfl (by first | exact Or.inl rfl | exact Or.inr rfl))) (fun _ _ _ _ _ => (pts_one (pt_cmpR op_eq (pe_call G__law_draw hr1 rfl g__law_draw k__law_draw b__law_draw .nil pass0 (pa_cons (pv 0) (pa_cons pe_int pa_nil))) pe_int (nomark _)))) (fun _ _ _ _ _ => (pv 4))))) pss_nil)
   (pss_one (ps_ret (pe_lc (own := [("_law_number", 4)]) rfl sc__law_came.nd (pi_range1 (by rfl) bI_range (pa_cons (pv 1) pa_nil)) (blkOk_by (N := ["_law_well_here", "_law_many", "_law_way_here", "_law_gone", "_law_number"]) (sc := defScope s__law_came) (by decide +kernel)) (fun _ _ _ _ _ => (pg_name (i := 4) sc__law_came.nd rfl (by first | exact Or.inl rfl | exact Or.inr rfl))) (fun _ _ _ _ _ => (pts_one (pt_cmpR op_ne (pe_call G__law_draw hr1 rfl g__law_draw k__law_draw b__law_draw .nil pass0 (pa_cons (pv 0) (pa_cons pe_int pa_nil))) pe_int (nomark _)))) (fun _ _ _ _ _ => (pv 4)))))))))), ?_⟩
  unfold l_came at P
  have st := Stp.refl (W := [p_well_here]) w
  refine h_set (h_call (h_cons (h_var rfl (h_cons (h_c (h_nil ?_))))))
  refine ⟨B0, p_well_here, a_well_here, 6, w, rfl, m_well_here, (P.bind).mono (fun x1 P => ?_) (fun _ z => z)⟩
  refine fun v5 B2 H3 s4 m_well_here r6 => ?_
  replace st := st.go s4 (go1 (.inl (by simp)))
  replace w := s4.ok
  cases r6
  refine h_set (h_call (h_cons (h_var rfl (h_cons (h_var rfl (h_nil ?_))))))
  refine ⟨B2, p_well_here, x1.2, a_many, w, rfl, m_well_here, (P.bind).mono (fun x7 P => ?_) (fun _ z => z)⟩
  refine fun v11 B8 H9 s10 m_well_here r12 => ?_
  replace st := st.go s10 (go1 (.inl (by simp)))
  replace w := s10.ok
  cases r12
  refine h_seq <| h_if ?_
  refine h_test ?_
  refine h_op (h_var rfl (h_c (h_I0 (h_bl ?_))))
  refine h_ite (fun c1 => ?_) (fun c1 => ?_)
  ·replace P := P.iteT c1
   refine h_ret (h_lcR1E ?_)
   refine h_cons (h_var rfl (h_nil ?_))
   obtain ⟨gz13, P⟩ := P.guard
   refine h_lcR1 P (fun Dl (acc : List Int) (a : Unit) H' => ∃ B', Stp [] B8 H9 B' H' ∧ H9 Dl = none ∧ Mu K B' H' Dl (acc.map enc) ∧ p_well_here ≠ Dl) (fun Dl hD => ⟨_, Stp.newM w hD, hD, Mu.new w hD .nil, Mu.ne m_well_here hD⟩) ?_ ?_ gz13
   ·rintro Dl14 N15 T16 x17 acc20 a21 H22 ⟨B23, s24, hD25, m26, ne30⟩ hlox17 hhix17 hz27 kk28 kn29 P
    have wj32 := w
    have sj31 := s24
    have n33 := st.nn hD25
    replace m_well_here := m_well_here.step s24 nm0
    replace st := st.go s24 go0
    replace w := s24.ok
    refine h_gname ?_
    refine h_lcI rfl ?_
    refine h_test ?_
    refine h_op (h_var rfl (h_var rfl (h_neI ?_)))
    refine h_bl ?_
    refine h_ite (fun c1 => ?_) (fun c1 => ?_)
    ·replace P := P.iteT c1
     refine h_var rfl ?_
     refine h_app (b := x17) w m26 (Rep.int _) hz27 (fun H34 s35 m26 => ?_)
     replace m_well_here := m_well_here.step s35 (nm1 ne30)
     replace st := st.go s35 (go1 (.inr n33))
     replace sj31 := sj31.go s35 (go1 (.inr hD25))
     replace w := s35.ok
     exact kk28 x17 () _ ⟨_, sj31, hD25, m26, ne30⟩ P.ok
    ·replace P := P.iteF c1
     exact kn29 () _ ⟨_, sj31, hD25, m26, ne30⟩ P.ok
   ·rintro Dl14 acc20 a21 H22 ⟨B23, s24, hD25, m26, ne30⟩ P
    have n36 := st.nn hD25
    replace m_well_here := m_well_here.step s24 nm0
    replace st := st.go s24 go0
    replace w := s24.ok
    replace P := P.un2
    obtain ⟨B41, e37, k38, g39, r40⟩ := Mu.keep m26
    replace st := g39 _ _ _ st w0 n36
    replace m_well_here := m_well_here.kp e37 k38 ne30
    replace w := st.ok
    replace r40 : Rep K B41 (.ref Dl14) (enc acc20) := r40
    exact P.ok _ _ _ st m_well_here r40
  ·replace P := P.iteF c1
   refine h_next ?_
   refine h_nx ?_
   refine h_seq <| h_if ?_
   refine h_test ?_
   refine h_op (h_var rfl (h_c (h_eqI ?_)))
   refine h_bl ?_
   refine h_ite (fun c1 => ?_) (fun c1 => ?_)
   ·replace P := P.iteT c1
    refine h_ret (h_lst (h_nil ?_))
    refine h_newL w (ds := (([] : List Int)).map enc) (K := K) .nil (fun p42 B43 H44 s45 r46 => ?_) (by show 0 ≤ sizeLine; decide)
    replace m_well_here := m_well_here.step s45 nm0
    replace st := st.go s45 go0
    replace w := s45.ok
    replace r46 : Rep K B43 (.ref p42) (enc ([] : List Int)) := r46
    exact P.ok _ _ _ st m_well_here r46
   ·replace P := P.iteF c1
    refine h_next ?_
    refine h_nx ?_
    refine h_seq <| h_if ?_
    refine h_test ?_
    refine h_op (h_var rfl (h_c (h_eqI ?_)))
    refine h_bl ?_
    refine h_ite (fun c1 => ?_) (fun c1 => ?_)
    ·replace P := P.iteT c1
     refine h_ret (h_lcR1E ?_)
     refine h_cons (h_var rfl (h_nil ?_))
     obtain ⟨gz47, P⟩ := P.guard
     refine h_lcR1 P (fun Dl (acc : List Int) (a : (List Int)) H' => ∃ B', Stp [p_well_here] B8 H9 B' H' ∧ H9 Dl = none ∧ Mu K B' H' Dl (acc.map enc) ∧ p_well_here ≠ Dl ∧ Mu K B' H' p_well_here (a.map enc)) (fun Dl hD => ⟨_, Stp.newM w hD, hD, Mu.new w hD .nil, Mu.ne m_well_here hD, m_well_here.step (Stp.newM (W := []) w hD) nm0⟩) ?_ ?_ gz47
     ·rintro Dl48 N49 T50 x51 acc54 a55 H56 ⟨B57, s58, hD59, m60, ne64, m_well_here⟩ hlox51 hhix51 hz61 kk62 kn63 P
      have wj66 := w
      have sj65 := s58
      have n67 := st.nn hD59
      replace st := st.go s58 (go1 (.inl (by simp)))
      replace w := s58.ok
      refine h_gname ?_
      refine h_lcI rfl ?_
      refine h_test ?_
      refine h_op (h_call (h_cons (h_var rfl (h_cons (h_c (h_nil ?_))))))
      refine ⟨B57, p_well_here, a55, 3, w, rfl, m_well_here, (P.bind).mono (fun x68 P => ?_) (fun _ z => z)⟩
      refine fun v72 B69 H70 s71 m_well_here r73 => ?_
      replace m60 := m60.step s71 (nm1 ne64.symm)
      replace st := st.go s71 (go1 (.inl (by simp)))
      replace sj65 := sj65.go s71 (go1 (.inl (by simp)))
      replace w := s71.ok
      cases r73
      refine h_c (h_eqI ?_)
      refine h_bl ?_
      refine h_ite (fun c1 => ?_) (fun c1 => ?_)
      ·replace P := P.iteT c1
       refine h_var rfl ?_
       refine h_app (b := x51) w m60 (Rep.int _) hz61 (fun H74 s75 m60 => ?_)
       replace m_well_here := m_well_here.step s75 (nm1 ne64)
       replace st := st.go s75 (go1 (.inr n67))
       replace sj65 := sj65.go s75 (go1 (.inr hD59))
       replace w := s75.ok
       exact kk62 x51 x68.2 _ ⟨_, sj65, hD59, m60, ne64, m_well_here⟩ P.ok
      ·replace P := P.iteF c1
       exact kn63 x68.2 _ ⟨_, sj65, hD59, m60, ne64, m_well_here⟩ P.ok
     ·rintro Dl48 acc54 a55 H56 ⟨B57, s58, hD59, m60, ne64, m_well_here⟩ P
      have n76 := st.nn hD59
      replace st := st.go s58 (go1 (.inl (by simp)))
      replace w := s58.ok
      replace P := P.un2
      obtain ⟨B81, e77, k78, g79, r80⟩ := Mu.keep m60
      replace st := g79 _ _ _ st w0 n76
      replace m_well_here := m_well_here.kp e77 k78 ne64
      replace w := st.ok
      replace r80 : Rep K B81 (.ref Dl48) (enc acc54) := r80
      exact P.ok _ _ _ st m_well_here r80
    ·replace P := P.iteF c1
     refine h_next ?_
     refine h_nx ?_
     refine h_ret (h_lcR1E ?_)
     refine h_cons (h_var rfl (h_nil ?_))
     obtain ⟨gz82, P⟩ := P.guard
     refine h_lcR1 P (fun Dl (acc : List Int) (a : (List Int)) H' => ∃ B', Stp [p_well_here] B8 H9 B' H' ∧ H9 Dl = none ∧ Mu K B' H' Dl (acc.map enc) ∧ p_well_here ≠ Dl ∧ Mu K B' H' p_well_here (a.map enc)) (fun Dl hD => ⟨_, Stp.newM w hD, hD, Mu.new w hD .nil, Mu.ne m_well_here hD, m_well_here.step (Stp.newM (W := []) w hD) nm0⟩) ?_ ?_ gz82
     ·rintro Dl83 N84 T85 x86 acc89 a90 H91 ⟨B92, s93, hD94, m95, ne99, m_well_here⟩ hlox86 hhix86 hz96 kk97 kn98 P
      have wj101 := w
      have sj100 := s93
      have n102 := st.nn hD94
      replace st := st.go s93 (go1 (.inl (by simp)))
      replace w := s93.ok
      refine h_gname ?_
      refine h_lcI rfl ?_
      refine h_test ?_
      refine h_op (h_call (h_cons (h_var rfl (h_cons (h_c (h_nil ?_))))))
      refine ⟨B92, p_well_here, a90, 9, w, rfl, m_well_here, (P.bind).mono (fun x103 P => ?_) (fun _ z => z)⟩
      refine fun v107 B104 H105 s106 m_well_here r108 => ?_
      replace m95 := m95.step s106 (nm1 ne99.symm)
      replace st := st.go s106 (go1 (.inl (by simp)))
      replace sj100 := sj100.go s106 (go1 (.inl (by simp)))
      replace w := s106.ok
      cases r108
      refine h_c (h_neI ?_)
      refine h_bl ?_
      refine h_ite (fun c1 => ?_) (fun c1 => ?_)
      ·replace P := P.iteT c1
       refine h_var rfl ?_
       refine h_app (b := x86) w m95 (Rep.int _) hz96 (fun H109 s110 m95 => ?_)
       replace m_well_here := m_well_here.step s110 (nm1 ne99)
       replace st := st.go s110 (go1 (.inr n102))
       replace sj100 := sj100.go s110 (go1 (.inr hD94))
       replace w := s110.ok
       exact kk97 x86 x103.2 _ ⟨_, sj100, hD94, m95, ne99, m_well_here⟩ P.ok
      ·replace P := P.iteF c1
       exact kn98 x103.2 _ ⟨_, sj100, hD94, m95, ne99, m_well_here⟩ P.ok
     ·rintro Dl83 acc89 a90 H91 ⟨B92, s93, hD94, m95, ne99, m_well_here⟩ P
      have n111 := st.nn hD94
      replace st := st.go s93 (go1 (.inl (by simp)))
      replace w := s93.ok
      replace P := P.un2
      obtain ⟨B116, e112, k113, g114, r115⟩ := Mu.keep m95
      replace st := g114 _ _ _ st w0 n111
      replace m_well_here := m_well_here.kp e112 k113 ne99
      replace w := st.ok
      replace r115 : Rep K B116 (.ref Dl83) (enc acc89) := r115
      exact P.ok _ _ _ st m_well_here r115
theorem ok__law_all_came {f : Addr} {fd : FuncData}  (F : Fun K "_law_all_came" "_law_all_came" s__law_all_came f fd) (X__law_needs : Cal Pr wo K mg base "_law_needs" ["_law_leaves_here", "_law_number", "_law_cell"] CX0 1 (sp__law_needs K)) : FnOk Pr wo K mg base CX0 2 f fd ["_law_leaves_here", "_law_came_here", "_law_number", "_law_cell"] (sp__law_all_came K) := by
 obtain ⟨_, _, g__law_needs, k__law_needs, b__law_needs, G__law_needs⟩ := X__law_needs
 refine F.ok sc__law_all_came (fun vs H Q E h => ?_) (fun cdv A outer s H0 vs Q E hr h => ?_)
 ·obtain ⟨_, _, _, _, _, _, _, _, rfl, _⟩ := h; rfl
 ·obtain ⟨B0, v_leaves_here, a_leaves_here, v_came_here, a_came_here, a_number, a_cell, w, rfl, r_leaves_here, r_came_here, P⟩ := h
  have hu := hu_of hr
  have hu64 := hu64_of hr
  have hu65 := hu65_of hr
  have hr1 : Room 1 _ := hr.mono (by decide)
  refine ⟨_, (pss_cons (ps_set (i := 4) sc__law_all_came.nd rfl (.inl rfl) (pe_lst (pa_cons (pe_tup (pa_cons (pv 2) (pa_cons (pv 3) pa_nil))) pa_nil)))
   (pss_cons (ps_set (i := 5) sc__law_all_came.nd rfl (.inl rfl) pe_dnewT)
   (pss_cons (ps_while PassesOwn.never (pt_cmpR (r := rNeD K) (op_neD hu64) (pv 4) (pe_lst pa_nil) (nomark _)) (pss_cons (ps_set (i := 6) sc__law_all_came.nd rfl (.inl rfl) (pe_bm0 PySem.F.plainAttrs_list PySem.F.slot_list_pop PySem.F.type_list_pop mt_pop (pv 4)))
   (pss_cons (ps_if (pt_cmpR (r := rNotInD K) (op_notInD hu65) (pe_ix (r := rIxT K) ix_tup (pv 6) pe_int (fun _ _ => rfl)) (pv 1) rfl) (pss_one (ps_ret pe_bl)) pss_nil)
   (pss_one (ps_if (pt_cmpR (r := rDIn true) (op_dnin hu64) (pv 6) (pv 5) rfl) (pss_cons (ps_dput (hu1 hu64) (pv 5) (pv 6) pe_bl rfl)
   (pss_one (ps_expr (pe_bm PySem.F.plainAttrs_list PySem.F.slot_list_extend PySem.F.type_list_extend mt_extend (pv 4) (pa_cons (pe_call G__law_needs hr1 rfl g__law_needs k__law_needs b__law_needs .nil pass0 (pa_cons (pv 0) (pa_cons (pe_ix (r := rIxT K) ix_tup (pv 6) pe_int (fun _ _ => rfl)) (pa_cons (pe_ix (r := rIxT K) ix_tup (pv 6) pe_int (fun _ _ => rfl)) pa_nil)))) pa_nil))))) pss_nil)))))
   (pss_one (ps_ret pe_bl))))), ?_⟩
  unfold l_all_came at P
  have st := Stp.refl (W := []) w
  refine h_set (h_lst (h_cons (h_tup ?_)))
  refine h_cons (h_var rfl (h_cons (h_var rfl (h_nil ?_))))
  refine h_newP w (K := K) (a := a_number) (b := a_cell) (fun p1 B2 H3 s4 r5 => ?_)
  replace st := st.go s4 go0
  replace w := s4.ok
  refine h_nil ?_
  refine h_newM w (ds := (([((a_number, a_cell) : Int × Int)] : List (Int × Int))).map enc) (K := K) (.cons r5 .nil) (fun p6 H7 hn10 s8 m9 => ?_) (by show 1 ≤ sizeLine; decide)
  have n11 := st.nn hn10
  replace st := st.go s8 go0
  replace w := s8.ok
  refine h_set ?_
  refine h_dnewT w (K := K) (fun p12 H13 hn16 s14 m15 => ?_)
  have n17 := st.nn hn16
  have ne18 := Mu.ne m9 hn16
  replace m9 := m9.step s14 nm0
  replace st := st.go s14 go0
  replace w := s14.ok
  replace m15 : MuT K B2 H13 p12 (encA ([] : (List ((Int × Int) × Bool)))) := m15
  refine h_seq ?_
  have wj20 := w
  have sj19 := Stp.refl (W := [p6, p12]) w
  refine h_while P (fun (a : (List (Int × Int)) × (List ((Int × Int) × Bool))) σ' H' => ∃ (B' : Hp) (o__law_pair : Option V), Stp [p6, p12] B2 H13 B' H' ∧ σ' = [some (v_leaves_here), some (v_came_here), some (.int a_number), some (.int a_cell), some ((.ref p6)), some ((.ref p12)), o__law_pair] ∧ Mu K B' H' p6 (a.1.map enc) ∧ MuT K B' H' p12 (encA a.2)) ⟨_, _, sj19, rfl, m9, m15⟩ ?_ ?_
  ·rintro N21 C22 T23 a28 _ H30 ⟨B29, o32, s31, rfl, m9, m15⟩ kn24 kk25 kr26 kb27 P
   replace st := st.go s31 (go2 (.inr n11) (.inr n17))
   replace w := s31.ok
   have sj19 := s31
   refine h_test ?_
   refine h_op (h_var rfl (h_lst (h_nil ?_)))
   refine h_newL w (ds := (([] : List D)).map enc) (K := K) .nil (fun p33 B34 H35 s36 r37 => ?_) (by show 0 ≤ sizeLine; decide)
   replace m9 := m9.step s36 nm0
   replace m15 := m15.step s36 nm0
   replace st := st.go s36 go0
   replace sj19 := sj19.go s36 go0
   replace w := s36.ok
   replace r37 : Rep K B34 (.ref p33) (enc ([] : List D)) := r37
   obtain ⟨gd, P⟩ := P.guard
   obtain ⟨xs39, hv, hs40, hr41⟩ := Mu.sq m9
   refine h_neC (d := (enc a28.1)) (e := (enc ([] : List D))) (SqL.cp w hs40 hr41) (Rep.cp w r37) gd ?_
   refine h_bl ?_
   refine h_ite (fun c1 => ?_) (fun c1 => ?_)
   ·replace P := P.iteT c1
    refine ⟨N21, kn24, ?_⟩
    refine h_set (h_bm0 ?_)
    refine h_var rfl (h_bmL0 m9 ?_)
    obtain ⟨y46, hx45, P⟩ := P.popE
    refine h_popE w m9 hx45 (fun u47 H42 s43 m9 r48 => ?_)
    replace m15 := m15.step s43 (nm1 ne18.symm)
    replace st := st.go s43 (go1 (.inr n11))
    replace sj19 := sj19.go s43 (go1 (.inl (by simp)))
    replace w := s43.ok
    generalize hl : (y46, List.dropLast a28.1) = x44 at P
    obtain rfl : y46 = x44.1 := by rw [← hl]
    have hl2 : List.dropLast a28.1 = x44.2 := by rw [← hl]
    rw [hl2] at m9
    refine h_seq <| h_if ?_
    refine h_test ?_
    refine h_op (h_op (h_var rfl (h_c ?_)))
    have r49 : Rep K B34 u47 (enc (⟨x44.1.1, x44.1.2⟩ : Tp2 Int Int)) := Rep.prT (a := x44.1.1) (b := x44.1.2) r48
    obtain ⟨p50, xs51, rfl, hs52, hr53⟩ := Rep.st w r49
    obtain ⟨u54, hu, r55⟩ := RepL.at hr53 (i := 0) rfl
    refine h_ixT hs52 hu ?_
    cases r55
    refine h_var rfl ?_
    obtain ⟨gd, P⟩ := P.guard
    refine h_ninD (d := (enc ((⟨x44.1.1, x44.1.2⟩ : Tp2 Int Int).a : Int))) (es := (a_came_here.map enc)) w (Rep.int _) (r_came_here.mono st.ex) gd ?_
    refine h_bl ?_
    refine h_ite (fun c1 => ?_) (fun c1 => ?_)
    ·replace P := P.iteT c1
     refine h_ret (h_c ?_)
     exact (kr26 _ P.ok) _ _ _ st (Rep.bl _)
    ·replace P := P.iteF c1
     refine h_next ?_
     refine h_nx ?_
     refine h_if ?_
     refine h_test ?_
     refine h_op (h_var rfl (h_var rfl (h_dinT w m15 r48 ?_)))
     refine h_bl ?_
     refine h_ite (fun c1 => ?_) (fun c1 => ?_)
     ·replace P := P.iteT c1
      refine h_seq (h_dputE ?_)
      refine h_c (h_var rfl (h_var rfl ?_))
      obtain ⟨gd, P⟩ := P.guard
      refine h_dputT (x := (true : Bool)) w m15 (Rep.bl _) r48 gd (fun H56 s57 m15 => ?_)
      replace m9 := m9.step s57 (nm1 ne18)
      replace r48 := r48.mono s57.ex
      replace st := st.go s57 (go1 (.inr n17))
      replace sj19 := sj19.go s57 (go1 (.inl (by simp)))
      replace w := s57.ok
      refine h_nx ?_
      refine h_drop ?_
      refine h_bm ?_
      refine h_var rfl (h_bmL m9 ?_)
      refine h_cons (h_call (h_cons (h_var rfl (h_cons (h_op (h_var rfl (h_c ?_)))))))
      have r58 : Rep K B34 (.ref p50) (enc (⟨x44.1.1, x44.1.2⟩ : Tp2 Int Int)) := Rep.prT (a := x44.1.1) (b := x44.1.2) r48
      obtain ⟨p59, xs60, hv, hs61, hr62⟩ := Rep.st w r58
      cases hv
      obtain ⟨u63, hu, r64⟩ := RepL.at hr62 (i := 0) rfl
      refine h_ixT hs61 hu ?_
      cases r64
      refine h_cons (h_op (h_var rfl (h_c ?_)))
      have r65 : Rep K B34 (.ref p50) (enc (⟨x44.1.1, x44.1.2⟩ : Tp2 Int Int)) := Rep.prT (a := x44.1.1) (b := x44.1.2) r48
      obtain ⟨p66, xs67, hv, hs68, hr69⟩ := Rep.st w r65
      cases hv
      obtain ⟨u70, hu, r71⟩ := RepL.at hr69 (i := 1) rfl
      refine h_ixT hs68 hu ?_
      cases r71
      refine h_nil ?_
      refine ⟨B34, v_leaves_here, a_leaves_here, ((⟨x44.1.1, x44.1.2⟩ : Tp2 Int Int).a), ((⟨x44.1.1, x44.1.2⟩ : Tp2 Int Int).b), w, rfl, ((r_leaves_here.step st).w sub0), (P.bind).mono (fun x72 P => ?_) (fun _ z => z)⟩
      refine fun p78 B73 H74 s75 hn79 m80 => ?_
      have n82 := st.nn hn79
      have n83 := sj19.nn hn79
      have ne84 := Mu.ne m9 hn79
      have ne85 := MuT.ne m15 hn79
      replace m9 := m9.step s75 nm0
      replace m15 := m15.step s75 nm0
      replace r48 := r48.mono s75.ex
      replace st := st.go s75 go0
      replace sj19 := sj19.go s75 go0
      replace w := s75.ok
      refine h_nil ?_
      obtain ⟨gd, P⟩ := P.guard
      refine h_extend w m9 m80 gd (fun H86 s87 m9 => ?_)
      replace m15 := m15.step s87 (nm1 ne18.symm)
      replace r48 := r48.mono s87.ex
      replace st := st.go s87 (go1 (.inr n11))
      replace sj19 := sj19.go s87 (go1 (.inl (by simp)))
      replace w := s87.ok
      refine h_nx ?_
      exact kk25 ((x44.2 ++ x72), (putA a28.2 x44.1 (true : Bool))) _ _ ⟨_, _, sj19, rfl, m9, m15⟩ P.ok
     ·replace P := P.iteF c1
      refine h_next ?_
      refine h_nx ?_
      exact kk25 (x44.2, a28.2) _ _ ⟨_, _, sj19, rfl, m9, m15⟩ P.ok
   ·replace P := P.iteF c1
    exact kb27 (a28.1, a28.2) _ _ ⟨_, _, sj19, rfl, m9, m15⟩ P.ok
  ·rintro a88 _ H90 ⟨B89, o92, s91, rfl, m9, m15⟩ P
   replace st := st.go s91 (go2 (.inr n11) (.inr n17))
   replace w := s91.ok
   refine h_nx ?_
   refine h_ret (h_c ?_)
   exact P.ok _ _ _ st (Rep.bl _)
theorem ok__law_way {f : Addr} {fd : FuncData}  (F : Fun K "_law_way" "_law_way" s__law_way f fd) {C_NotKnown : Addr} (T_NotKnown : ExcT K mg "NotKnown" C_NotKnown) {C_NoCell : Addr} (T_NoCell : ExcR K mg "NoCell" C_NoCell) {C_NoNumber : Addr} (T_NoNumber : ExcR K mg "NoNumber" C_NoNumber) {C_NotWhole : Addr} (T_NotWhole : ExcR K mg "NotWhole" C_NotWhole) {C_NoHead : Addr} (T_NoHead : ExcR K mg "NoHead" C_NoHead) {C_ScrollError : Addr} (T_ScrollError : ExcR K mg "ScrollError" C_ScrollError) (p_NotKnown_NoCell : PySem.W.subIn K (.ref C_NotKnown) (.ref C_NoCell) = some false) (p_NotKnown_NoHead : PySem.W.subIn K (.ref C_NotKnown) (.ref C_NoHead) = some false) (p_NotKnown_NoNumber : PySem.W.subIn K (.ref C_NotKnown) (.ref C_NoNumber) = some false) (p_NotKnown_NotKnown : PySem.W.subIn K (.ref C_NotKnown) (.ref C_NotKnown) = some true) (p_NotKnown_NotWhole : PySem.W.subIn K (.ref C_NotKnown) (.ref C_NotWhole) = some false) (p_NotKnown_ScrollError : PySem.W.subIn K (.ref C_NotKnown) (.ref C_ScrollError) = some true) (xn_NotKnown_way : PySem.W.findIn K (.ref C_NotKnown) "way" = some none) (X_table : Cal Pr wo K mg base "table" ["leaves", "number", "cell"] (L2.CX Pr wo) 7 (sp_table K mg)) (bI_isinstance : mg "isinstance" = none) : FnOk Pr wo K mg base CX0 8 f fd ["_law_handed", "_law_number", "_law_cell"] (sp__law_way K) := by
 obtain ⟨_, _, g_table, k_table, b_table, G_table⟩ := X_table
 refine F.ok sc__law_way (fun vs H Q E h => ?_) (fun cdv A outer s H0 vs Q E hr h => ?_)
 ·obtain ⟨_, _, _, _, _, _, rfl, _⟩ := h; rfl
 ·obtain ⟨B0, p_handed, a_handed, a_number, a_cell, w, rfl, m_handed, P⟩ := h
  have w0 := w
  have hr7 : Room 7 _ := hr.mono (by decide)
  refine ⟨_, (pss_cons (ps_set (i := 3) sc__law_way.nd rfl (.inl rfl) (pe_tup pa_nil))
   (pss_cons (ps_set (i := 4) sc__law_way.nd rfl (.inl rfl) pe_bl)
   (pss_cons (ps_tryA (K := K) (Wout := fun _ _ _ _ => False) (i := 5) rfl rfl sc__law_way.nd rfl rfl (T_NotKnown.names rfl (by decide)) takes0 (fun W pn xe tk _ => (pss_one (ps_expr (pe_callS G_table hr7 rfl g_table k_table b_table (fun σ => passAt tk σ) (pa_cons (pv 0) (pa_cons (pv 1) (pa_cons (pv 2) pa_nil))))))) (fun a oe cls d pn hz hf => (pss_cons (ps_set (i := 3) sc__law_way.nd rfl (.inl rfl) (pe_xf T_NotKnown.xf xn_NotKnown_way hz hf (pv 5)))
   (pss_one (ps_set (i := 4) sc__law_way.nd rfl (.inl rfl) (pe_or (pe_isETD (K := K) (a := a) (cls := cls) (d := d) rfl (fun Dc e1 ec => by subst e1; exact (pe_callB (r := rIsETD K Dc a d) (call_isETD ec hz hf) (by rfl) bI_isinstance PyProof.Rows.boot_isinstance (pa_cons (pv 5) (pa_cons (pe_tup (pa_cons (pe_glob (v := .ref C_NoCell) (by rfl) T_NoCell.g rfl) (pa_cons (pe_glob (v := .ref C_NoNumber) (by rfl) T_NoNumber.g rfl) (pa_cons (pe_glob (v := .ref C_NotWhole) (by rfl) T_NotWhole.g rfl) (pa_cons (pe_glob (v := .ref C_NoHead) (by rfl) T_NoHead.g rfl) pa_nil))))) pa_nil))))) (pe_one (pe_not (pe_isED (K := K) (a := a) (cls := cls) (d := d) rfl (fun Dc e1 ec => by subst e1; exact (pe_callB (r := rIsED K Dc a d) (call_isED ec hz hf) (by rfl) bI_isinstance PyProof.Rows.boot_isinstance (pa_cons (pv 5) (pa_cons (pe_glob (v := .ref C_ScrollError) (by rfl) T_ScrollError.g rfl) pa_nil)))))))))))))
   (pss_cons (ps_if (pt_val (pv 4)) (pss_one (ps_ret pe_non)) pss_nil)
   (pss_one (ps_ret (pv 3))))))), ?_⟩
  unfold l_way at P
  have st := Stp.refl (W := []) w
  refine h_set (h_tup ?_)
  refine h_nil ?_
  refine h_newT w (K := K) .nil (fun p1 B2 H3 s4 r5 => ?_) (by show 0 ≤ sizeLine; decide)
  replace m_handed := m_handed.step s4 nm0
  replace st := st.go s4 go0
  replace w := s4.ok
  replace r5 : Rep K B2 (.ref p1) (enc (.tup [] : D)) := r5
  refine h_set (h_c (h_seq (h_tryA ?_)))
  refine h_drop ?_
  refine h_callS ?_
  refine h_cons (h_var rfl (h_cons (h_var rfl (h_cons (h_var rfl (h_nil ?_))))))
  refine ⟨B2, p_handed, a_handed, a_number, a_cell, w, rfl, m_handed, Post.mono2 P.tryD (fun e12 P => ?_) (fun x6 P => ?_)⟩
  ·skip
   have nfE := fun (p : Addr) (h : H3 p = none) => st.nn h
   rintro C16 dE B13 H14 g s15 hdE
   replace m_handed := m_handed.step s15 nm0
   replace r5 := r5.mono s15.ex
   replace st := st.go s15 go0
   replace w := s15.ok
   obtain ⟨ec, ea⟩ := e12
   have he := P.guard.1
   replace P := P.guard.2
   obtain rfl : ec = "NotKnown" := List.mem_singleton.mp he
   obtain rfl : C_NotKnown = C16 := Value.ref.inj (Option.some.inj (T_NotKnown.g.symm.trans g))
   obtain ⟨ey, rfl⟩ := List.length_eq_one_iff.mp P.guard.1
   replace P := P.guard.2
   obtain ⟨exd_, v18, exy_, rfl, hexd, hefE, rn20⟩ := hdE
   obtain rfl := (List.cons.inj hefE).1
   have r19 := rn20.rep
   replace rn20 := rn20.ago nfE
   refine h_wAsD T_NotKnown p_NotKnown_NotKnown (fun ax17 haax17 => ?_)
   refine h_set (h_xfV rfl rfl hexd ?_)
   refine h_set1 ?_
   have wj22 := w
   have sj21 := Stp.refl (W := []) w
   refine h_exprJ P (fun (a : Bool) v H' => ∃ B', Stp [] B13 H14 B' H' ∧ v = .bl a) (fun N kk23 P => ?_) ?_
   ·skip
    refine h_or ?_
    refine h_isETD T_NotKnown (h_cons (h_var rfl (h_cons (h_tup ?_))))
    refine h_cons (h_c ?_)
    refine h_cons (h_c ?_)
    refine h_cons (h_c ?_)
    refine h_cons (h_c ?_)
    refine h_nil (h_clsTup w (by show 4 ≤ sizeLine; decide) fun p26 s25 => h_nil ?_)
    refine h_isETDR rfl (Stp.xd s25 hexd) (.cons (.own _) (.cons (.own _) (.cons (.own _) (.cons (.own _) .nil)))) (kitA_f (T_NoCell.kit p_NotKnown_NoCell) (kitA_f (T_NoNumber.kit p_NotKnown_NoNumber) (kitA_f (T_NotWhole.kit p_NotKnown_NotWhole) (kitA_f (T_NoHead.kit p_NotKnown_NoHead) kitA_nil)))) ?_
    replace m_handed := m_handed.step s25 nm0
    replace r19 := r19.mono s25.ex
    replace rn20 := rn20.mono s25.ex
    replace st := st.go s25 go0
    replace sj21 := sj21.go s25 go0
    replace hexd := Stp.xd s25 hexd
    replace w := s25.ok
    refine h_bl (h_iteF ?_)
    refine h_not ?_
    refine h_isED T_NotKnown (h_cons (h_var rfl (h_cons (h_c (h_nil (h_isEDR rfl hexd ?_))))))
    refine h_isER (T_ScrollError.kit p_NotKnown_ScrollError) ?_
    refine h_bl ?_
    exact kk23 (!true) _ _ ⟨_, sj21, rfl⟩ P.ok
   rintro a27 v28 H30 ⟨B29, s31, r32⟩ P
   replace m_handed := m_handed.step s31 nm0
   replace r19 := r19.mono s31.ex
   replace rn20 := rn20.mono s31.ex
   replace st := st.go s31 go0
   replace hexd := Stp.xd s31 hexd
   replace w := s31.ok
   subst r32
   refine h_nx ?_
   refine h_nx ?_
   refine h_seq <| h_if ?_
   refine h_tB ?_
   refine h_var rfl (h_bl ?_)
   refine h_ite (fun c1 => ?_) (fun c1 => ?_)
   ·replace P := P.iteT c1
    refine h_ret (h_c ?_)
    exact P.ok _ _ _ st (.sc Rep.non rfl)
   ·replace P := P.iteF c1
    refine h_next ?_
    refine h_nx ?_
    refine h_ret (h_var rfl ?_)
    exact P.ok _ _ _ st rn20
  refine fun p33 B7 H8 s9 hn34 m35 => ?_
  have n37 := st.nn hn34
  have ne38 := MuK.ne m_handed hn34
  replace m_handed := m_handed.step s9 nm0
  replace r5 := r5.mono s9.ex
  replace st := st.go s9 go0
  replace w := s9.ok
  obtain ⟨B43, e39, k40, g41, r42⟩ := Mu.keep m35
  replace st := g41 _ _ _ st w0 n37
  replace m_handed := m_handed.kp e39 k40 ne38
  replace r5 := r5.mono e39
  replace w := st.ok
  replace r42 : Rep K B43 (.ref p33) (enc x6) := r42
  refine h_nx ?_
  refine h_seq <| h_if ?_
  refine h_tB ?_
  refine h_var rfl (h_bl (h_iteF ?_))
  refine h_next ?_
  refine h_nx ?_
  refine h_ret (h_var rfl ?_)
  exact P.ok _ _ _ st (.sc r5 rfl)
theorem ok__law_way_right {f : Addr} {fd : FuncData}  (F : Fun K "_law_way_right" "_law_way_right" s__law_way_right f fd) (X__law_needs : Cal Pr wo K mg base "_law_needs" ["_law_leaves_here", "_law_number", "_law_cell"] CX0 1 (sp__law_needs K)) (X__law_whole : Cal Pr wo K mg base "_law_whole" ["_law_thing"] CX0 1 (sp__law_whole K)) (bI_range : mg "range" = none) (bI_len : mg "len" = none) (bI_isinstance : mg "isinstance" = none) (bI_list : mg "list" = none) (bI_tuple : mg "tuple" = none) (bI_all : mg "all" = none) : FnOk Pr wo K mg base CX0 2 f fd ["_law_leaves_here", "_law_came_here", "_law_way_here", "_law_number", "_law_cell"] (sp__law_way_right K) := by
 obtain ⟨_, _, g__law_needs, k__law_needs, b__law_needs, G__law_needs⟩ := X__law_needs
 obtain ⟨_, _, g__law_whole, k__law_whole, b__law_whole, G__law_whole⟩ := X__law_whole
 refine F.ok sc__law_way_right (fun vs H Q E h => ?_) (fun cdv A outer s H0 vs Q E hr h => ?_)
 ·obtain ⟨_, _, _, _, _, _, _, _, _, _, rfl, _⟩ := h; rfl
 ·obtain ⟨B0, v_leaves_here, a_leaves_here, v_came_here, a_came_here, v_way_here, a_way_here, a_number, a_cell, w, rfl, r_leaves_here, r_came_here, r_way_here, P⟩ := h
  have w0 := w
  have hu := hu_of hr
  have hu64 := hu64_of hr
  have hu65 := hu65_of hr
  have hr1 : Room 1 _ := hr.mono (by decide)
  refine ⟨_, (pss_cons (ps_if (PW.pt (pw_or (pt_not (pt_val (pe_callB (r := rIsi K) call_isi (by rfl) bI_isinstance PyProof.Rows.boot_isinstance (pa_cons (pv 2) (pa_cons (pe_bltn (v := .ty "list") (by rfl) bI_list Y.boot_list rfl) pa_nil))))) (pw_or (pt_cmpR (r := rEqD K) (op_eqD hu64) (pv 2) (pe_lst pa_nil) (nomark _)) (pw_or1 (pt_cmpR (r := rNeD K) (op_neD hu64) (pe_ix (r := rIxL K) ix_list (pv 2) pe_int (fun _ _ => rfl)) (pe_tup (pa_cons (pv 3) (pa_cons (pv 4) pa_nil))) (nomark _)))))) (pss_one (ps_ret pe_bl)) pss_nil)
   (pss_cons (ps_for PassesOwn.never rfl (pi_list (pv 2)) (pg_name (i := 5) sc__law_way_right.nd rfl (by first | exact Or.inl rfl | exact Or.inr rfl)) (pss_one (ps_if (PW.pt (pw_or (pt_not (pt_val (pe_callB (r := rIsi K) call_isi (by rfl) bI_isinstance PyProof.Rows.boot_isinstance (pa_cons (pv 5) (pa_cons (pe_bltn (v := .ty "tuple") (by rfl) bI_tuple Y.boot_tuple rfl) pa_nil))))) (pw_or (pt_cmpR op_ne (pe_callB (r := rLenY K) cr_len (by rfl) bI_len PySem.boot_len (pa_cons (pv 5) pa_nil)) pe_int (nomark _)) (pw_or1 (pt_not (pt_val (pe_callB (r := rAll K) (cr_all rfl) (by rfl) bI_all PyProof.Rows.boot_all (pa_cons (pe_lc (own := [("_law_one", 6)]) rfl sc__law_way_right.nd (pi_tup (pv 5)) (blkOk_by (N := ["_law_leaves_here", "_law_came_here", "_law_way_here", "_law_number", "_law_cell", "_law_pair", "_law_one", "_law_k", "_law_at", "_law_there"]) (sc := defScope s__law_way_right) (by decide +kernel)) (fun _ _ _ _ _ => (pg_name (i := 6) sc__law_way_right.nd rfl (by first | exact Or.inl rfl | exact Or.inr rfl))) (fun _ _ _ _ _ => pts_nil) (fun _ _ _ _ _ => (pe_call G__law_whole hr1 rfl g__law_whole k__law_whole b__law_whole .nil pass0 (pa_cons (pv 6) pa_nil)))) pa_nil)))))))) (pss_one (ps_ret pe_bl)) pss_nil)))
   (pss_cons (ps_for PassesOwn.never rfl (pi_range2 (by rfl) bI_range (pa_cons pe_int (pa_cons (pe_callB (r := rLenY K) cr_len (by rfl) bI_len PySem.boot_len (pa_cons (pv 2) pa_nil)) pa_nil))) (pg_name (i := 7) sc__law_way_right.nd rfl (.inl rfl)) (pss_cons (ps_asg (pe_ix (r := rIxL K) ix_list (pv 2) (pe_op op_sub (pv 7) pe_int) (fun _ _ => rfl)) (pg_tupK (K := K) (n := 2) rfl rfl (pgs_cons (pg_name (i := 8) sc__law_way_right.nd rfl (.inl rfl)) (pgs_cons (pg_name (i := 9) sc__law_way_right.nd rfl (.inl rfl)) pgs_nil))))
   (pss_one (ps_if (PW.pt (pw_or (pt_cmpR (r := rNotInD K) (op_notInD hu65) (pv 8) (pv 1) rfl) (pw_or1 (pt_cmpR (r := rNotInD K) (op_notInD hu65) (pe_ix (r := rIxL K) ix_list (pv 2) (pv 7) (fun _ _ => rfl)) (pe_call G__law_needs hr1 rfl g__law_needs k__law_needs b__law_needs .nil pass0 (pa_cons (pv 0) (pa_cons (pv 8) (pa_cons (pv 9) pa_nil)))) rfl)))) (pss_one (ps_ret pe_bl)) pss_nil))))
   (pss_one (ps_ret (pe_cmpR (r := rNotInD K) (op_notInD hu65) (pe_ix (r := rIxT K) ix_tup (pe_ix (r := rIxL K) ix_list (pv 2) (pe_un un_neg pe_int) (fun _ _ => rfl)) pe_int (fun _ _ => rfl)) (pv 1) rfl)))))), ?_⟩
  unfold l_way_right at P
  have st := Stp.refl (W := []) w
  refine h_seq <| h_if ?_
  refine h_tor ?_
  refine h_tnot ?_
  refine h_tB ?_
  refine h_cb (h_cons (h_var rfl (h_cons (h_c (h_nil ?_)))))
  refine isi (t := "list") w (r_way_here.mono st.ex) ?_
  refine h_bl ?_
  refine h_iteN (fun c1 => ?_) (fun c1 => ?_)
  ·replace P := P.iteF c1
   refine h_iteT ?_
   refine h_ret (h_c ?_)
   exact P.ok _ _ _ st (Rep.bl _)
  ·replace P := P.iteT c1
   refine h_tor ?_
   refine h_test ?_
   refine h_op (h_var rfl (h_lst (h_nil ?_)))
   refine h_newL w (ds := (([] : List D)).map enc) (K := K) .nil (fun p1 B2 H3 s4 r5 => ?_) (by show 0 ≤ sizeLine; decide)
   replace st := st.go s4 go0
   replace w := s4.ok
   replace r5 : Rep K B2 (.ref p1) (enc ([] : List D)) := r5
   obtain ⟨gd, P⟩ := P.guard
   refine h_eqD (d := (enc a_way_here)) (e := (enc ([] : List D))) w (r_way_here.mono st.ex) r5 gd ?_
   refine h_bl ?_
   refine h_ite (fun c1 => ?_) (fun c1 => ?_)
   ·replace P := P.iteT c1
    refine h_iteT ?_
    refine h_ret (h_c ?_)
    exact P.ok _ _ _ st (Rep.bl _)
   ·replace P := P.iteF c1
    refine h_test ?_
    refine h_op (h_op (h_var rfl (h_c ?_)))
    obtain ⟨p6, xs7, rfl, hs8, hr9⟩ := Rep.sq w (r_way_here.mono st.ex)
    obtain ⟨x10, hx11, P⟩ := P.ix
    obtain ⟨u12, hu, r13⟩ := RepL.atE hr9 hx11
    refine h_ixL hs8 hu ?_
    refine h_tup ?_
    refine h_cons (h_var rfl (h_cons (h_var rfl (h_nil ?_))))
    refine h_newT w (K := K) (.cons (Rep.int _) (.cons (Rep.int _) .nil)) (fun p14 B15 H16 s17 r18 => ?_) (by show 2 ≤ sizeLine; decide)
    replace r13 := r13.mono s17.ex
    replace st := st.go s17 go0
    replace w := s17.ok
    replace r18 : Rep K B15 (.ref p14) (enc (⟨a_number, a_cell⟩ : Qf)) := r18
    obtain ⟨gd, P⟩ := P.guard
    refine h_neD (d := (enc x10)) (e := (enc (⟨a_number, a_cell⟩ : Qf))) w r13 r18 gd ?_
    refine h_bl ?_
    refine h_ite (fun c1 => ?_) (fun c1 => ?_)
    ·replace P := P.iteT c1
     refine h_ret (h_c ?_)
     exact P.ok _ _ _ st (Rep.bl _)
    ·replace P := P.iteF c1
     refine h_next ?_
     refine h_nx ?_
     refine h_seq (h_forE ?_)
     refine h_var rfl ?_
     obtain ⟨p19, xs20, hv, hb21, hr22⟩ := Rep.sqB (r_way_here.mono st.ex)
     cases hv
     have wj24 := w
     have sj23 := Stp.refl (W := []) w
     refine h_forL P (w.l hb21) hr22 (fun (a : Unit) σ' H' => ∃ (B' : Hp) (o__law_one : Option V) (o__law_pair : Option V), Stp [] B15 H16 B' H' ∧ σ' = [some (v_leaves_here), some (v_came_here), some ((.ref p6)), some (.int a_number), some (.int a_cell), o__law_pair, o__law_one, none, none, none]) ⟨_, _, _, sj23, rfl⟩ (fun _ _ _ j => ?_) ?_ ?_
     ·obtain ⟨B34, o37, o38, s36, rfl⟩ := j
      exact s36.ok.l (s36.ex.l hb21)
     ·rintro N25 T26 x31 v32 a30 _ H35 ⟨B34, o37, o38, s36, rfl⟩ r33 kk27 kr28 kb29 P
      replace st := st.go s36 go0
      replace w := s36.ok
      have sj23 := s36
      replace r33 := r33.mono sj23.ex
      refine h_gname ?_
      refine h_if ?_
      refine h_tor ?_
      refine h_tnot ?_
      refine h_tB ?_
      refine h_cb (h_cons (h_var rfl (h_cons (h_c (h_nil ?_)))))
      refine isi (t := "tuple") w r33 ?_
      refine h_bl ?_
      refine h_iteN (fun c1 => ?_) (fun c1 => ?_)
      ·replace P := P.iteF c1
       refine h_iteT ?_
       refine h_ret (h_c ?_)
       exact (kr28 _ P.ok) _ _ _ st (Rep.bl _)
      ·replace P := P.iteT c1
       refine h_tor ?_
       refine h_test ?_
       refine h_op (h_cb (h_cons (h_var rfl (h_nil ?_))))
       have r39 : Rep K B34 v32 (enc (⟨x31.1, x31.2⟩ : Tp2 Int Int)) := Rep.prT (a := x31.1) (b := x31.2) r33
       obtain ⟨p40, xs41, rfl, hs42, hr43⟩ := Rep.st w r39
       refine h_lenT hs42 hr43 ?_
       refine h_c (h_neI ?_)
       refine h_bl ?_
       refine h_ite (fun c1 => ?_) (fun c1 => ?_)
       ·replace P := P.iteT c1
        refine h_iteT ?_
        refine h_ret (h_c ?_)
        exact (kr28 _ P.ok) _ _ _ st (Rep.bl _)
       ·replace P := P.iteF c1
        refine h_tnot ?_
        refine h_tB ?_
        refine h_cb (h_cons (h_lcUE ?_))
        refine h_var rfl ?_
        have r44 : Rep K B34 (.ref p40) (enc (⟨x31.1, x31.2⟩ : Tp2 Int Int)) := Rep.prT (a := x31.1) (b := x31.2) r33
        obtain ⟨l45, hl46, P⟩ := P.asT
        have rc47 : Rep K B34 (.ref p40) (enc (⟨x31.1, x31.2⟩ : Tp2 Int Int)) := r44
        rw [hl46] at rc47
        obtain ⟨p48, xs49, hv, hb50, hr51⟩ := Rep.stB rc47
        cases hv
        refine h_lcU P (w.t hb50) hr51 (fun Dl (acc : List Bool) (a : Unit) H' => ∃ B', Stp [] B34 H35 B' H' ∧ H35 Dl = none ∧ Mu K B' H' Dl (acc.map enc)) (fun Dl hD => ⟨_, Stp.newM w hD, hD, Mu.new w hD .nil⟩) (fun _ _ _ _ j => ?_) ?_ ?_
        ·obtain ⟨B61, s62, hD63, m64⟩ := j
         exact s62.ok.t (s62.ex.t hb50)
        ·rintro Dl52 N53 T54 x55 v56 acc58 a59 H60 ⟨B61, s62, hD63, m64⟩ r57 hz65 kk66 kn67 P
         have wj69 := w
         have sj68 := s62
         have n70 := st.nn hD63
         have n71 := sj23.nn hD63
         replace r33 := r33.mono s62.ex
         replace st := st.go s62 go0
         replace sj23 := sj23.go s62 go0
         replace w := s62.ok
         replace r57 := r57.mono s62.ex
         refine h_gname ?_
         refine h_lcT rfl ?_
         refine h_call (h_cons (h_var rfl (h_nil ?_)))
         refine ⟨B61, v56, x55, w, rfl, r57, (P.bind).mono (fun x72 P => ?_) (fun _ z => z)⟩
         refine fun v76 B73 H74 s75 r77 => ?_
         replace r33 := r33.mono s75.ex
         replace r57 := r57.mono s75.ex
         replace m64 := m64.step s75 nm0
         replace st := st.go s75 go0
         replace sj23 := sj23.go s75 go0
         replace sj68 := sj68.go s75 go0
         replace w := s75.ok
         cases r77
         refine h_app (b := x72) w m64 (Rep.bl _) hz65 (fun H78 s79 m64 => ?_)
         replace r33 := r33.mono s79.ex
         replace r57 := r57.mono s79.ex
         replace st := st.go s79 (go1 (.inr n70))
         replace sj23 := sj23.go s79 (go1 (.inr n71))
         replace sj68 := sj68.go s79 (go1 (.inr hD63))
         replace w := s79.ok
         exact kk66 x72 () _ ⟨_, sj68, hD63, m64⟩ P.ok
        ·rintro Dl52 acc58 a59 H60 ⟨B61, s62, hD63, m64⟩ P
         have n80 := st.nn hD63
         have n81 := sj23.nn hD63
         replace r33 := r33.mono s62.ex
         replace st := st.go s62 go0
         replace sj23 := sj23.go s62 go0
         replace w := s62.ok
         replace P := P.un2
         obtain ⟨B86, e82, k83, g84, r85⟩ := Mu.keep m64
         replace st := g84 _ _ _ st w0 n80
         replace sj23 := g84 _ _ _ sj23 wj24 n81
         replace r33 := r33.mono e82
         replace w := st.ok
         replace r85 : Rep K B86 (.ref Dl52) (enc acc58) := r85
         refine h_nil ?_
         obtain ⟨p87, xs88, hv, hs89, hr90⟩ := Rep.sq w r85
         cases hv
         refine h_all hs89 hr90 ?_
         refine h_bl ?_
         refine h_iteN (fun c1 => ?_) (fun c1 => ?_)
         ·replace P := P.iteF c1
          refine h_ret (h_c ?_)
          exact (kr28 _ P.ok) _ _ _ st (Rep.bl _)
         ·replace P := P.iteT c1
          refine h_next ?_
          refine h_nx ?_
          exact kk27 () _ _ ⟨_, _, _, sj23, rfl⟩ P.ok
     ·rintro a91 _ H93 ⟨B92, o95, o96, s94, rfl⟩ P
      replace st := st.go s94 go0
      replace w := s94.ok
      refine h_nx ?_
      refine h_seq (h_rng2 ?_)
      refine h_cons (h_c (h_cons (h_cb (h_cons (h_var rfl (h_nil ?_))))))
      obtain ⟨p97, xs98, hv, hs99, hr100⟩ := Rep.sq w (r_way_here.mono st.ex)
      cases hv
      refine h_len hs99 hr100 ?_
      refine h_nil ?_
      obtain ⟨gz101, P⟩ := P.guard
      have wj103 := w
      have sj102 := Stp.refl (W := []) w
      refine h_forR2 P gz101 (fun (a : Unit) σ' H' => ∃ (B' : Hp) (o__law_at : Option V) (o__law_there : Option V) (o__law_k : Option V), Stp [] B92 H93 B' H' ∧ σ' = [some (v_leaves_here), some (v_came_here), some ((.ref p6)), some (.int a_number), some (.int a_cell), o96, o95, o__law_k, o__law_at, o__law_there]) ⟨_, _, _, _, sj102, rfl⟩ ?_ ?_
      ·rintro N104 T105 x110 a109 _ H114 ⟨B113, o116, o117, o118, s115, rfl⟩ hlox110 hhix110 kk106 kr107 kb108 P
       replace st := st.go s115 go0
       replace w := s115.ok
       have sj102 := s115
       refine h_gname ?_
       refine h_seq (h_asg ?_)
       refine h_op (h_var rfl (h_op (h_var rfl (h_c (h_I0 ?_)))))
       obtain ⟨p119, xs120, hv, hs121, hr122⟩ := Rep.sq w (r_way_here.mono st.ex)
       cases hv
       obtain ⟨x123, hx124, P⟩ := P.ix
       obtain ⟨u125, hu, r126⟩ := RepL.atE hr122 hx124
       refine h_ixL hs121 hu ?_
       have r127 : Rep K B113 u125 (enc (⟨x123.1, x123.2⟩ : Tp2 Int Int)) := Rep.prT (a := x123.1) (b := x123.2) r126
       obtain ⟨p128, xs129, rfl, hs130, hr131⟩ := Rep.st w r127
       obtain ⟨u132, u134, rfl, r133, r135⟩ := RepL.open2 hr131
       refine h_tupG hs130 rfl ?_
       refine h_gcons ?_
       refine h_gname ?_
       cases r133
       refine h_gcons ?_
       refine h_gname ?_
       cases r135
       refine h_gnil ?_
       refine h_nx ?_
       refine h_if ?_
       refine h_tor ?_
       refine h_test ?_
       refine h_op (h_var rfl (h_var rfl ?_))
       obtain ⟨gd, P⟩ := P.guard
       refine h_ninD (d := (enc ((⟨x123.1, x123.2⟩ : Tp2 Int Int).a : Int))) (es := (a_came_here.map enc)) w (Rep.int _) (r_came_here.mono st.ex) gd ?_
       refine h_bl ?_
       refine h_ite (fun c1 => ?_) (fun c1 => ?_)
       ·replace P := P.iteT c1
        refine h_iteT ?_
        refine h_ret (h_c ?_)
        exact (kr107 _ P.ok) _ _ _ st (Rep.bl _)
       ·replace P := P.iteF c1
        refine h_test ?_
        refine h_op (h_op (h_var rfl (h_var rfl ?_)))
        obtain ⟨p136, xs137, hv, hs138, hr139⟩ := Rep.sq w (r_way_here.mono st.ex)
        cases hv
        obtain ⟨x140, hx141, P⟩ := P.ix
        obtain ⟨u142, hu, r143⟩ := RepL.atE hr139 hx141
        refine h_ixL hs138 hu ?_
        refine h_call (h_cons (h_var rfl (h_cons (h_var rfl (h_cons (h_var rfl (h_nil ?_)))))))
        refine ⟨B113, v_leaves_here, a_leaves_here, ((⟨x123.1, x123.2⟩ : Tp2 Int Int).a), ((⟨x123.1, x123.2⟩ : Tp2 Int Int).b), w, rfl, ((r_leaves_here.step st).w sub0), (P.bind).mono (fun x144 P => ?_) (fun _ z => z)⟩
        refine fun p150 B145 H146 s147 hn151 m152 => ?_
        have n154 := st.nn hn151
        have n155 := sj102.nn hn151
        replace r143 := r143.mono s147.ex
        replace st := st.go s147 go0
        replace sj102 := sj102.go s147 go0
        replace w := s147.ok
        obtain ⟨B160, e156, k157, g158, r159⟩ := Mu.keep m152
        replace st := g158 _ _ _ st w0 n154
        replace sj102 := g158 _ _ _ sj102 wj103 n155
        replace r143 := r143.mono e156
        replace w := st.ok
        replace r159 : Rep K B160 (.ref p150) (enc x144) := r159
        obtain ⟨gd, P⟩ := P.guard
        refine h_ninD (d := (enc x140)) (es := (x144.map enc)) w r143 r159 gd ?_
        refine h_bl ?_
        refine h_ite (fun c1 => ?_) (fun c1 => ?_)
        ·replace P := P.iteT c1
         refine h_ret (h_c ?_)
         exact (kr107 _ P.ok) _ _ _ st (Rep.bl _)
        ·replace P := P.iteF c1
         refine h_next ?_
         refine h_nx ?_
         exact kk106 () _ _ ⟨_, _, _, _, sj102, rfl⟩ P.ok
      ·rintro a161 _ H163 ⟨B162, o165, o166, o167, s164, rfl⟩ P
       replace st := st.go s164 go0
       replace w := s164.ok
       refine h_nx ?_
       refine h_ret (h_op (h_op (h_op (h_var rfl (h_un ?_)))))
       refine h_c (h_U ?_)
       obtain ⟨p168, xs169, hv, hs170, hr171⟩ := Rep.sq w (r_way_here.mono st.ex)
       cases hv
       obtain ⟨x172, hx173, P⟩ := P.ix
       obtain ⟨u174, hu, r175⟩ := RepL.atE hr171 hx173
       refine h_ixL hs170 hu ?_
       refine h_c ?_
       have r176 : Rep K B162 u174 (enc (⟨x172.1, x172.2⟩ : Tp2 Int Int)) := Rep.prT (a := x172.1) (b := x172.2) r175
       obtain ⟨p177, xs178, rfl, hs179, hr180⟩ := Rep.st w r176
       obtain ⟨u181, hu, r182⟩ := RepL.at hr180 (i := 0) rfl
       refine h_ixT hs179 hu ?_
       cases r182
       refine h_var rfl ?_
       obtain ⟨gd, P⟩ := P.guard
       refine h_ninD (d := (enc ((⟨x172.1, x172.2⟩ : Tp2 Int Int).a : Int))) (es := (a_came_here.map enc)) w (Rep.int _) (r_came_here.mono st.ex) gd ?_
       exact P.ok _ _ _ st (Rep.bl _)
theorem ok__law_asked {f : Addr} {fd : FuncData}  (F : Fun K "_law_asked" "_law_asked" s__law_asked f fd) (X__law_way : Cal Pr wo K mg base "_law_way" ["_law_handed", "_law_number", "_law_cell"] CX0 8 (sp__law_way K)) (X__law_all_came : Cal Pr wo K mg base "_law_all_came" ["_law_leaves_here", "_law_came_here", "_law_number", "_law_cell"] CX0 2 (sp__law_all_came K)) (X__law_way_right : Cal Pr wo K mg base "_law_way_right" ["_law_leaves_here", "_law_came_here", "_law_way_here", "_law_number", "_law_cell"] CX0 2 (sp__law_way_right K)) (X_known : Cal Pr wo K mg base "known" ["leaves", "number", "cell"] CX0 7 (sp_known K)) (X_table : Cal Pr wo K mg base "table" ["leaves", "number", "cell"] (L2.CX Pr wo) 7 (sp_table K mg)) : FnOk Pr wo K mg base CX0 9 f fd ["_law_leaves_here", "_law_handed", "_law_came_here", "_law_number", "_law_cell"] (sp__law_asked K) := by
 obtain ⟨_, _, g__law_way, k__law_way, b__law_way, G__law_way⟩ := X__law_way
 obtain ⟨_, _, g__law_all_came, k__law_all_came, b__law_all_came, G__law_all_came⟩ := X__law_all_came
 obtain ⟨_, _, g__law_way_right, k__law_way_right, b__law_way_right, G__law_way_right⟩ := X__law_way_right
 obtain ⟨_, _, g_known, k_known, b_known, G_known⟩ := X_known
 obtain ⟨_, _, g_table, k_table, b_table, G_table⟩ := X_table
 refine F.ok sc__law_asked (fun vs H Q E h => ?_) (fun cdv A outer s H0 vs Q E hr h => ?_)
 ·obtain ⟨_, _, _, _, _, _, _, _, _, _, rfl, _⟩ := h; rfl
 ·obtain ⟨B0, v_leaves_here, a_leaves_here, p_handed, a_handed, v_came_here, a_came_here, a_number, a_cell, w, rfl, r_leaves_here, m_handed, r_came_here, P⟩ := h
  have w0 := w
  have hu := hu_of hr
  have hu64 := hu64_of hr
  have hr2 : Room 2 _ := hr.mono (by decide)
  have hr7 : Room 7 _ := hr.mono (by decide)
  have hr8 : Room 8 _ := hr.mono (by decide)
  refine ⟨_, (pss_cons (ps_set (i := 5) sc__law_asked.nd rfl (.inl rfl) (pe_call G__law_way hr8 rfl g__law_way k__law_way b__law_way .nil pass0 (pa_cons (pv 1) (pa_cons (pv 3) (pa_cons (pv 4) pa_nil)))))
   (pss_cons (ps_if (pt_val (pe_call G__law_all_came hr2 rfl g__law_all_came k__law_all_came b__law_all_came .nil pass0 (pa_cons (pv 0) (pa_cons (pv 2) (pa_cons (pv 3) (pa_cons (pv 4) pa_nil)))))) (pss_one (ps_ret (pe_and (pe_cmpR (r := rEqD K) (op_eqD hu64) (pv 5) (pe_tup pa_nil) (nomark _)) (pe_one (pe_cmpR (r := rEqD K) (op_eqD hu64) (pe_slice (r := rSlA K) sl_tupA (pe_ix (r := rIxL K) ix_list (pe_call G_table hr7 rfl g_table k_table b_table .nil passL (pa_cons (pv 1) (pa_cons (pv 3) (pa_cons (pv 4) pa_nil)))) (pe_un un_neg pe_int) (fun _ _ => rfl)) po_none (po_some pe_int)) (pe_tup (pa_cons (pv 3) (pa_cons (pv 4) pa_nil))) (nomark _)))))) pss_nil)
   (pss_cons (ps_if (pt_cmpR op_notNn (pe_call G_known hr7 rfl g_known k_known b_known .nil pass0 (pa_cons (pv 1) (pa_cons (pv 3) (pa_cons (pv 4) pa_nil)))) pe_non (nomark _)) (pss_one (ps_ret pe_bl)) pss_nil)
   (pss_cons (ps_if (pt_not (pt_val (pe_call G__law_way_right hr2 rfl g__law_way_right k__law_way_right b__law_way_right .nil pass0 (pa_cons (pv 0) (pa_cons (pv 2) (pa_cons (pv 5) (pa_cons (pv 3) (pa_cons (pv 4) pa_nil)))))))) (pss_one (ps_ret pe_bl)) pss_nil)
   (pss_cons (ps_expr (pe_bm0 PySem.F.plainAttrs_list PySem.F.slot_list_reverse PySem.F.type_list_reverse mt_reverse (pv 5)))
   (pss_cons (ps_expr (pe_bm PySem.F.plainAttrs_list PySem.F.slot_list_append PySem.F.type_list_append mt_append (pv 5) (pa_cons (pe_tup (pa_cons pe_int (pa_cons pe_int pa_nil))) pa_nil)))
   (pss_one (ps_ret (pe_call G__law_way_right hr2 rfl g__law_way_right k__law_way_right b__law_way_right .nil pass0 (pa_cons (pv 0) (pa_cons (pv 2) (pa_cons (pe_call G__law_way hr8 rfl g__law_way k__law_way b__law_way .nil pass0 (pa_cons (pv 1) (pa_cons (pv 3) (pa_cons (pv 4) pa_nil)))) (pa_cons (pv 3) (pa_cons (pv 4) pa_nil)))))))))))))), ?_⟩
  unfold l_asked at P
  have st := Stp.refl (W := []) w
  refine h_set (h_call (h_cons (h_var rfl (h_cons (h_var rfl (h_cons (h_var rfl (h_nil ?_))))))))
  have m_handed_s1 := m_handed
  have st_s1 := st
  have w_s1 := w
  have ex_s1 := Ex.refl B0
  have wj3 := w
  have sj2 := Stp.refl (W := []) w
  refine ⟨B0, p_handed, a_handed, a_number, a_cell, w, rfl, m_handed, (P.bind).mono (fun x4 P => ?_) (fun _ z => z)⟩
  have nf10 := fun (p : Addr) (h : H0 p = none) => st.nn h
  refine fun v8 B5 H6 s7 rn11 => ?_
  have r9 := rn11.rep
  have rn11_h := rn11
  replace rn11 := rn11.ago nf10
  replace m_handed := m_handed.step s7 nm0
  replace st := st.go s7 go0
  replace sj2 := sj2.go s7 go0
  replace w := s7.ok
  refine h_seq <| h_if ?_
  refine h_tB ?_
  refine h_call (h_cons (h_var rfl (h_cons (h_var rfl (h_cons (h_var rfl (h_cons (h_var rfl (h_nil ?_)))))))))
  refine ⟨B5, v_leaves_here, a_leaves_here, v_came_here, a_came_here, a_number, a_cell, w, rfl, ((r_leaves_here.step st).w sub0), (r_came_here.mono st.ex), (P.bind).mono (fun x12 P => ?_) (fun _ z => z)⟩
  refine fun v16 B13 H14 s15 r17 => ?_
  replace m_handed := m_handed.step s15 nm0
  replace r9 := r9.mono s15.ex
  replace rn11 := rn11.mono s15.ex
  replace rn11_h := rn11_h.mono s15.ex
  replace st := st.go s15 go0
  replace sj2 := sj2.go s15 go0
  replace w := s15.ok
  cases r17
  refine h_bl ?_
  refine h_ite (fun c1 => ?_) (fun c1 => ?_)
  ·replace P := P.iteT c1
   refine h_ret (h_and ?_)
   refine h_op (h_var rfl (h_tup ?_))
   refine h_nil ?_
   refine h_newT w (K := K) .nil (fun p18 B19 H20 s21 r22 => ?_) (by show 0 ≤ sizeLine; decide)
   replace m_handed := m_handed.step s21 nm0
   replace r9 := r9.mono s21.ex
   replace rn11 := rn11.mono s21.ex
   replace rn11_h := rn11_h.mono s21.ex
   replace st := st.go s21 go0
   replace sj2 := sj2.go s21 go0
   replace w := s21.ok
   replace r22 : Rep K B19 (.ref p18) (enc (.tup [] : D)) := r22
   obtain ⟨gd, P⟩ := P.guard
   refine h_eqD (d := x4) (e := (.tup [] : D)) w r9 r22 gd ?_
   refine h_bl ?_
   refine h_ite (fun c1 => ?_) (fun c1 => ?_)
   ·replace P := P.iteT c1
    refine h_op (h_sl ?_)
    refine h_op (h_call (h_cons (h_var rfl (h_cons (h_var rfl (h_cons (h_var rfl (h_nil ?_))))))))
    refine ⟨B19, p_handed, a_handed, a_number, a_cell, w, rfl, m_handed, (P.bind.noErr).mono (fun x23 P => ?_) (fun _ z => z.elim)⟩
    refine fun p29 B24 H25 s26 hn30 m31 => ?_
    have n33 := st.nn hn30
    have n34 := sj2.nn hn30
    have ne35 := MuK.ne m_handed hn30
    replace m_handed := m_handed.step s26 nm0
    replace r9 := r9.mono s26.ex
    replace rn11 := rn11.mono s26.ex
    replace rn11_h := rn11_h.mono s26.ex
    replace st := st.go s26 go0
    replace sj2 := sj2.go s26 go0
    replace w := s26.ok
    obtain ⟨B40, e36, k37, g38, r39⟩ := Mu.keep m31
    replace st := g38 _ _ _ st w0 n33
    replace sj2 := g38 _ _ _ sj2 wj3 n34
    replace m_handed := m_handed.kp e36 k37 ne35
    replace r9 := r9.mono e36
    replace rn11 := rn11.mono e36
    replace rn11_h := rn11_h.mono e36
    replace w := st.ok
    replace r39 : Rep K B40 (.ref p29) (enc x23) := r39
    refine h_un ?_
    refine h_c (h_U ?_)
    obtain ⟨p41, xs42, hv, hs43, hr44⟩ := Rep.sq w r39
    cases hv
    obtain ⟨x45, hx46, P⟩ := P.ix
    obtain ⟨u47, hu, r48⟩ := RepL.atE hr44 hx46
    refine h_ixL hs43 hu ?_
    have r49 : Rep K B40 u47 (enc x45) := r48
    refine h_nopart ?_
    refine h_part ?_
    refine h_c (h_isI ?_)
    obtain ⟨l50, hl51, P⟩ := P.asT
    have rc52 := r49
    rw [hl51] at rc52
    obtain ⟨p53, xs54, rfl, hs55, hr56⟩ := Rep.st w rc52
    refine h_slA w rc52 (fun u57 B58 H59 s60 r61 => ?_)
    replace m_handed := m_handed.step s60 nm0
    replace r9 := r9.mono s60.ex
    replace rn11 := rn11.mono s60.ex
    replace rn11_h := rn11_h.mono s60.ex
    replace st := st.go s60 go0
    replace sj2 := sj2.go s60 go0
    replace w := s60.ok
    replace r61 : Rep K B58 u57 (enc (.tup ((cutL l50 none (some 2)).map enc) : D)) := r61
    refine h_tup ?_
    refine h_cons (h_var rfl (h_cons (h_var rfl (h_nil ?_))))
    refine h_newT w (K := K) (.cons (Rep.int _) (.cons (Rep.int _) .nil)) (fun p62 B63 H64 s65 r66 => ?_) (by show 2 ≤ sizeLine; decide)
    replace m_handed := m_handed.step s65 nm0
    replace r9 := r9.mono s65.ex
    replace rn11 := rn11.mono s65.ex
    replace rn11_h := rn11_h.mono s65.ex
    replace r61 := r61.mono s65.ex
    replace st := st.go s65 go0
    replace sj2 := sj2.go s65 go0
    replace w := s65.ok
    replace r66 : Rep K B63 (.ref p62) (enc (⟨a_number, a_cell⟩ : Qf)) := r66
    obtain ⟨gd, P⟩ := P.guard
    refine h_eqD (d := (.tup ((cutL l50 none (some 2)).map enc) : D)) (e := (enc (⟨a_number, a_cell⟩ : Qf))) w r61 r66 gd ?_
    exact P.ok _ _ _ st (Rep.bl _)
   ·replace P := P.iteF c1
    exact P.ok _ _ _ st (Rep.bl _)
  ·replace P := P.iteF c1
   refine h_next ?_
   refine h_nx ?_
   refine h_seq <| h_if ?_
   refine h_test ?_
   refine h_op (h_call (h_cons (h_var rfl (h_cons (h_var rfl (h_cons (h_var rfl (h_nil ?_))))))))
   refine ⟨B13, p_handed, a_handed, a_number, a_cell, w, rfl, m_handed, (P.bind).mono (fun x67 P => ?_) (fun _ z => z)⟩
   refine fun v71 B68 H69 s70 r72 => ?_
   replace m_handed := m_handed.step s70 nm0
   replace r9 := r9.mono s70.ex
   replace rn11 := rn11.mono s70.ex
   replace rn11_h := rn11_h.mono s70.ex
   replace st := st.go s70 go0
   replace sj2 := sj2.go s70 go0
   replace w := s70.ok
   refine h_c (h_notN r72 ?_)
   refine h_bl ?_
   refine h_ite (fun c1 => ?_) (fun c1 => ?_)
   ·replace P := P.iteT c1
    refine h_ret (h_c ?_)
    exact P.ok _ _ _ st (Rep.bl _)
   ·replace P := P.iteF c1
    refine h_next ?_
    refine h_nx ?_
    refine h_seq <| h_if ?_
    refine h_tnot ?_
    refine h_tB ?_
    refine h_call (h_cons (h_var rfl (h_cons (h_var rfl (h_cons (h_var rfl (h_cons (h_var rfl (h_cons (h_var rfl (h_nil ?_)))))))))))
    obtain ⟨x73, hx74, P⟩ := P.asD
    have rc75 := r9
    rw [hx74] at rc75
    refine ⟨B68, v_leaves_here, a_leaves_here, v_came_here, a_came_here, v8, x73, a_number, a_cell, w, rfl, ((r_leaves_here.step st).w sub0), (r_came_here.mono st.ex), rc75, (P.bind).mono (fun x76 P => ?_) (fun _ z => z)⟩
    refine fun v80 B77 H78 s79 r81 => ?_
    replace m_handed := m_handed.step s79 nm0
    replace r9 := r9.mono s79.ex
    replace rn11 := rn11.mono s79.ex
    replace rn11_h := rn11_h.mono s79.ex
    replace st := st.go s79 go0
    replace sj2 := sj2.go s79 go0
    replace w := s79.ok
    cases r81
    refine h_bl ?_
    refine h_iteN (fun c1 => ?_) (fun c1 => ?_)
    ·replace P := P.iteF c1
     refine h_ret (h_c ?_)
     exact P.ok _ _ _ st (Rep.bl _)
    ·replace P := P.iteT c1
     refine h_next ?_
     refine h_nx ?_
     obtain ⟨x82, hx83, P⟩ := P.asD
     rw [hx83] at rn11_h
     obtain ⟨p84, xs85, ev86, hb87, hn88, hr89⟩ := RepN.lstE rn11_h
     cases ev86
     obtain ⟨gd, P⟩ := P.guard
     have hl90 : xs85.length < 1000000 := by rw [hr89.length, List.length_map]; exact gd
     refine h_seq (h_drop ?_)
     refine h_bm0 ?_
     refine h_var rfl (h_bmR0 (w _ _ hb87) ?_)
     refine h_revRv (w _ _ hb87) (sj2.back2 ex_s1) w_s1 hn88 fun H91 s92 e93 => ?_
     refine h_nx ?_
     refine h_seq (h_drop ?_)
     refine h_bm ?_
     refine h_var rfl (h_bmR e93 ?_)
     refine h_cons (h_tup (h_cons (h_c (h_cons (h_c (h_nil (h_tupRv s92 s92.ok (by show 2 ≤ sizeLine; decide) fun q94 H95 s96 k97 => ?_)))))))
     refine h_nil (h_appRv (k97 _ _ e93) (by rw [List.length_reverse]; exact hl90) s96 w_s1 hn88 fun H98 s99 e100 => ?_)
     replace st := st_s1.go s99 go0
     replace w := s99.ok
     have m_handed := m_handed_s1.step s99 nm0
     refine h_nx ?_
     refine h_ret (h_call (h_cons (h_var rfl (h_cons (h_var rfl (h_cons (h_call (h_cons (h_var rfl (h_cons (h_var rfl (h_cons (h_var rfl (h_nil ?_))))))))))))))
     refine ⟨B0, p_handed, a_handed, a_number, a_cell, w, rfl, m_handed, (P.bind).mono (fun x101 P => ?_) (fun _ z => z)⟩
     have nf107 := fun (p : Addr) (h : H98 p = none) => st.nn h
     refine fun v105 B102 H103 s104 rn108 => ?_
     have r106 := rn108.rep
     replace rn108 := rn108.ago nf107
     replace m_handed := m_handed.step s104 nm0
     replace st := st.go s104 go0
     replace w := s104.ok
     refine h_cons (h_var rfl (h_cons (h_var rfl (h_nil ?_))))
     obtain ⟨x109, hx110, P⟩ := P.asD
     have rc111 := r106
     rw [hx110] at rc111
     refine ⟨B102, v_leaves_here, a_leaves_here, v_came_here, a_came_here, v105, x109, a_number, a_cell, w, rfl, ((r_leaves_here.step st).w sub0), (r_came_here.mono st.ex), rc111, (P.bind).mono (fun x112 P => ?_) (fun _ z => z)⟩
     refine fun v116 B113 H114 s115 r117 => ?_
     replace m_handed := m_handed.step s115 nm0
     replace r106 := r106.mono s115.ex
     replace rn108 := rn108.mono s115.ex
     replace st := st.go s115 go0
     replace w := s115.ok
     cases r117
     exact P.ok _ _ _ st (Rep.bl _)
theorem ok__law_chain {f : Addr} {fd : FuncData}  (F : Fun K "_law_chain" "_law_chain" s__law_chain f fd) (X__law_draw : Cal Pr wo K mg base "_law_draw" ["_law_well_here", "_law_many"] CX0 1 (sp__law_draw K)) (bI_range : mg "range" = none) : FnOk Pr wo K mg base CX0 2 f fd ["_law_well_here"] (sp__law_chain K) := by
 obtain ⟨_, _, g__law_draw, k__law_draw, b__law_draw, G__law_draw⟩ := X__law_draw
 refine F.ok sc__law_chain (fun vs H Q E h => ?_) (fun cdv A outer s H0 vs Q E hr h => ?_)
 ·obtain ⟨_, _, _, _, rfl, _⟩ := h; rfl
 ·obtain ⟨B0, p_well_here, a_well_here, w, rfl, m_well_here, P⟩ := h
  have w0 := w
  have hr1 : Room 1 _ := hr.mono (by decide)
  refine ⟨_, (pss_cons (ps_set (i := 1) sc__law_chain.nd rfl (.inl rfl) (pe_lst (pa_cons (pe_tup (pa_cons pe_str (pa_cons pe_int (pa_cons pe_int (pa_cons (pe_tup (pa_cons (pe_call G__law_draw hr1 rfl g__law_draw k__law_draw b__law_draw .nil pass0 (pa_cons (pv 0) (pa_cons pe_int pa_nil))) pa_nil)) pa_nil))))) pa_nil)))
   (pss_cons (ps_for PassesOwn.never rfl (pi_range2 (by rfl) bI_range (pa_cons pe_int (pa_cons pe_int pa_nil))) (pg_name (i := 2) sc__law_chain.nd rfl (.inl rfl)) (pss_cons (ps_set (i := 3) sc__law_chain.nd rfl (.inl rfl) (pe_tup (pa_cons pe_str (pa_cons pe_int (pa_cons pe_int (pa_cons (pe_call G__law_draw hr1 rfl g__law_draw k__law_draw b__law_draw .nil pass0 (pa_cons (pv 0) (pa_cons pe_int pa_nil))) pa_nil))))))
   (pss_cons (ps_if (PW.pt (pw_and (pt_cmpR op_gt (pv 2) pe_int (nomark _)) (pw_and1 (pt_cmpR op_eq (pe_call G__law_draw hr1 rfl g__law_draw k__law_draw b__law_draw .nil pass0 (pa_cons (pv 0) (pa_cons pe_int pa_nil))) pe_int (nomark _))))) (pss_one (ps_set (i := 3) sc__law_chain.nd rfl (.inl rfl) (pe_tup (pa_cons pe_str (pa_cons pe_int (pa_cons pe_int (pa_cons pe_int (pa_cons pe_int pa_nil)))))))) pss_nil)
   (pss_one (ps_expr (pe_bm PySem.F.plainAttrs_list PySem.F.slot_list_append PySem.F.type_list_append mt_append (pv 1) (pa_cons (pe_tup (pa_cons pe_str (pa_cons (pv 2) (pa_cons pe_int (pa_cons (pe_tup (pa_cons (pv 3) pa_nil)) pa_nil))))) pa_nil)))))))
   (pss_one (ps_ret (pv 1))))), ?_⟩
  unfold l_chain at P
  have st := Stp.refl (W := [p_well_here]) w
  refine h_set (h_lst (h_cons (h_tup ?_)))
  refine h_cons (h_c (h_cons (h_c (h_cons (h_c (h_cons (h_tup ?_)))))))
  refine h_cons (h_call (h_cons (h_var rfl (h_cons (h_c (h_nil ?_))))))
  refine ⟨B0, p_well_here, a_well_here, 256, w, rfl, m_well_here, (P.bind).mono (fun x1 P => ?_) (fun _ z => z)⟩
  refine fun v5 B2 H3 s4 m_well_here r6 => ?_
  replace st := st.go s4 (go1 (.inl (by simp)))
  replace w := s4.ok
  cases r6
  refine h_nil ?_
  refine h_newT w (K := K) (.cons (Rep.int _) .nil) (fun p7 B8 H9 s10 r11 => ?_) (by show 1 ≤ sizeLine; decide)
  replace m_well_here := m_well_here.step s10 nm0
  replace st := st.go s10 go0
  replace w := s10.ok
  replace r11 : Rep K B8 (.ref p7) (enc (⟨x1.1⟩ : (Tp1 Int))) := r11
  refine h_nil ?_
  refine h_newT w (K := K) (.cons (Rep.str _) (.cons (Rep.int _) (.cons (Rep.int _) (.cons r11 .nil)))) (fun p12 B13 H14 s15 r16 => ?_) (by show 4 ≤ sizeLine; decide)
  replace m_well_here := m_well_here.step s15 nm0
  replace st := st.go s15 go0
  replace w := s15.ok
  replace r16 : Rep K B13 (.ref p12) (enc (⟨("full" : Str), 0, 1, (⟨x1.1⟩ : (Tp1 Int))⟩ : (Tp4 Str Int Int (Tp1 Int)))) := r16
  refine h_nil ?_
  refine h_newM w (ds := (([(enc (⟨("full" : Str), 0, 1, (⟨x1.1⟩ : (Tp1 Int))⟩ : (Tp4 Str Int Int (Tp1 Int))))] : List D)).map enc) (K := K) (.cons r16 .nil) (fun p17 H18 hn21 s19 m20 => ?_) (by show 1 ≤ sizeLine; decide)
  have n22 := st.nn hn21
  have ne23 := Mu.ne m_well_here hn21
  replace m_well_here := m_well_here.step s19 nm0
  replace st := st.go s19 go0
  replace w := s19.ok
  refine h_seq (h_rng2 ?_)
  refine h_cons (h_c (h_cons (h_c (h_nil ?_))))
  have gz24 : ((-(2 ^ 62) ≤ (1 : Int) ∧ (1 : Int) < 2 ^ 62) ∧ -(2 ^ 62) ≤ (200 : Int) ∧ (200 : Int) < 2 ^ 62) := by decide
  have wj26 := w
  have sj25 := Stp.refl (W := [p_well_here, p17]) w
  refine h_forR2 P gz24 (fun (a : (List Int) × (List D)) σ' H' => ∃ (B' : Hp) (o__law_rule_here : Option V) (o__law_number : Option V), Stp [p_well_here, p17] B13 H18 B' H' ∧ σ' = [some ((.ref p_well_here)), some ((.ref p17)), o__law_number, o__law_rule_here] ∧ Mu K B' H' p_well_here (a.1.map enc) ∧ Mu K B' H' p17 (a.2.map enc)) ⟨_, _, _, sj25, rfl, m_well_here, m20⟩ ?_ ?_
  ·rintro N27 T28 x33 a32 _ H37 ⟨B36, o39, o40, s38, rfl, m_well_here, m20⟩ hlox33 hhix33 kk29 kr30 kb31 P
   replace st := st.go s38 (go2 (.inl (by simp)) (.inr n22))
   replace w := s38.ok
   have sj25 := s38
   refine h_gname ?_
   refine h_set (h_tup ?_)
   refine h_cons (h_c (h_cons (h_c (h_cons (h_c (h_cons (h_call (h_cons (h_var rfl (h_cons (h_c (h_nil ?_))))))))))))
   refine ⟨B36, p_well_here, a32.1, 256, w, rfl, m_well_here, (P.bind).mono (fun x41 P => ?_) (fun _ z => z)⟩
   refine fun v45 B42 H43 s44 m_well_here r46 => ?_
   replace m20 := m20.step s44 (nm1 ne23.symm)
   replace st := st.go s44 (go1 (.inl (by simp)))
   replace sj25 := sj25.go s44 (go1 (.inl (by simp)))
   replace w := s44.ok
   cases r46
   refine h_nil ?_
   refine h_newT w (K := K) (.cons (Rep.str _) (.cons (Rep.int _) (.cons (Rep.int _) (.cons (Rep.int _) .nil)))) (fun p47 B48 H49 s50 r51 => ?_) (by show 4 ≤ sizeLine; decide)
   replace m_well_here := m_well_here.step s50 nm0
   replace m20 := m20.step s50 nm0
   replace st := st.go s50 go0
   replace sj25 := sj25.go s50 go0
   replace w := s50.ok
   replace r51 : Rep K B48 (.ref p47) (enc (⟨("moved" : Str), 1, 0, x41.1⟩ : (Tp4 Str Int Int Int))) := r51
   have wj53 := w
   have sj52 := Stp.refl (W := [p_well_here]) w
   refine h_joinS P (fun (a : D × (List Int)) σ' H' => ∃ (B' : Hp) (v0 : V), Stp [p_well_here] B48 H49 B' H' ∧ σ' = [some ((.ref p_well_here)), some ((.ref p17)), some (.int x33), some v0] ∧ Rep K B' v0 (enc a.1) ∧ Mu K B' H' p_well_here (a.2.map enc)) (fun N kk54 P => h_if ?_) ?_
   ·skip
    refine h_tand ?_
    refine h_test ?_
    refine h_op (h_var rfl (h_c (h_I0 (h_bl ?_))))
    refine h_ite (fun c1 => ?_) (fun c1 => ?_)
    ·replace P := P.iteT c1
     refine h_test ?_
     refine h_op (h_call (h_cons (h_var rfl (h_cons (h_c (h_nil ?_))))))
     refine ⟨B48, p_well_here, x41.2, 5, w, rfl, m_well_here, (P.bind).mono (fun x55 P => ?_) (fun _ z => z)⟩
     refine fun v59 B56 H57 s58 m_well_here r60 => ?_
     replace m20 := m20.step s58 (nm1 ne23.symm)
     replace r51 := r51.mono s58.ex
     replace st := st.go s58 (go1 (.inl (by simp)))
     replace sj25 := sj25.go s58 (go1 (.inl (by simp)))
     replace sj52 := sj52.go s58 (go1 (.inl (by simp)))
     replace w := s58.ok
     cases r60
     refine h_c (h_eqI ?_)
     refine h_bl ?_
     refine h_ite (fun c1 => ?_) (fun c1 => ?_)
     ·replace P := P.iteT c1
      refine h_set1 ?_
      refine h_tup ?_
      refine h_cons (h_c (h_cons (h_c (h_cons (h_c (h_cons (h_c (h_cons (h_c (h_nil ?_))))))))))
      refine h_newT w (K := K) (.cons (Rep.str _) (.cons (Rep.int _) (.cons (Rep.int _) (.cons (Rep.int _) (.cons (Rep.int _) .nil))))) (fun p61 B62 H63 s64 r65 => ?_) (by show 5 ≤ sizeLine; decide)
      replace m_well_here := m_well_here.step s64 nm0
      replace m20 := m20.step s64 nm0
      replace r51 := r51.mono s64.ex
      replace st := st.go s64 go0
      replace sj25 := sj25.go s64 go0
      replace sj52 := sj52.go s64 go0
      replace w := s64.ok
      replace r65 : Rep K B62 (.ref p61) (enc (⟨("mixed" : Str), 1, 0, 2, 0⟩ : (Tp5 Str Int Int Int Int))) := r65
      refine h_nx ?_
      exact kk54 ((enc (⟨("mixed" : Str), 1, 0, 2, 0⟩ : (Tp5 Str Int Int Int Int))), x55.2) _ _ ⟨_, (.ref p61), sj52, rfl, r65, m_well_here⟩ P.ok
     ·replace P := P.iteF c1
      refine h_next ?_
      refine h_nx ?_
      exact kk54 ((enc (⟨("moved" : Str), 1, 0, x41.1⟩ : (Tp4 Str Int Int Int))), x55.2) _ _ ⟨_, (.ref p47), sj52, rfl, r51, m_well_here⟩ P.ok
    ·replace P := P.iteF c1
     refine h_iteF ?_
     refine h_next ?_
     refine h_nx ?_
     exact kk54 ((enc (⟨("moved" : Str), 1, 0, x41.1⟩ : (Tp4 Str Int Int Int))), x41.2) _ _ ⟨_, (.ref p47), sj52, rfl, r51, m_well_here⟩ P.ok
   rintro a66 _ H68 ⟨B67, v70, s69, rfl, r71, m_well_here⟩ P
   replace m20 := m20.step s69 (nm1 ne23.symm)
   replace st := st.go s69 (go1 (.inl (by simp)))
   replace sj25 := sj25.go s69 (go1 (.inl (by simp)))
   replace w := s69.ok
   refine h_drop ?_
   refine h_bm ?_
   refine h_var rfl (h_bmL m20 ?_)
   refine h_cons (h_tup ?_)
   refine h_cons (h_c (h_cons (h_var rfl (h_cons (h_c (h_cons (h_tup ?_)))))))
   refine h_cons (h_var rfl (h_nil ?_))
   refine h_newT w (K := K) (.cons r71 .nil) (fun p72 B73 H74 s75 r76 => ?_) (by show 1 ≤ sizeLine; decide)
   replace m_well_here := m_well_here.step s75 nm0
   replace m20 := m20.step s75 nm0
   replace r71 := r71.mono s75.ex
   replace st := st.go s75 go0
   replace sj25 := sj25.go s75 go0
   replace w := s75.ok
   replace r76 : Rep K B73 (.ref p72) (enc (⟨a66.1⟩ : (Tp1 D))) := r76
   refine h_nil ?_
   refine h_newT w (K := K) (.cons (Rep.str _) (.cons (Rep.int _) (.cons (Rep.int _) (.cons r76 .nil)))) (fun p77 B78 H79 s80 r81 => ?_) (by show 4 ≤ sizeLine; decide)
   replace m_well_here := m_well_here.step s80 nm0
   replace m20 := m20.step s80 nm0
   replace r71 := r71.mono s80.ex
   replace st := st.go s80 go0
   replace sj25 := sj25.go s80 go0
   replace w := s80.ok
   replace r81 : Rep K B78 (.ref p77) (enc (⟨("woven" : Str), x33, 1, (⟨a66.1⟩ : (Tp1 D))⟩ : (Tp4 Str Int Int (Tp1 D)))) := r81
   refine h_nil ?_
   obtain ⟨gd, P⟩ := P.guard
   refine h_append (b := (enc (⟨("woven" : Str), x33, 1, (⟨a66.1⟩ : (Tp1 D))⟩ : (Tp4 Str Int Int (Tp1 D))))) w m20 r81 gd (fun H82 s83 m20 => ?_)
   replace m_well_here := m_well_here.step s83 (nm1 ne23)
   replace r71 := r71.mono s83.ex
   replace st := st.go s83 (go1 (.inr n22))
   replace sj25 := sj25.go s83 (go1 (.inl (by simp)))
   replace w := s83.ok
   refine h_nx ?_
   exact kk29 (a66.2, (a32.2 ++ [(enc (⟨("woven" : Str), x33, 1, (⟨a66.1⟩ : (Tp1 D))⟩ : (Tp4 Str Int Int (Tp1 D))))])) _ _ ⟨_, _, _, sj25, rfl, m_well_here, m20⟩ P.ok
  ·rintro a84 _ H86 ⟨B85, o88, o89, s87, rfl, m_well_here, m20⟩ P
   replace st := st.go s87 (go2 (.inl (by simp)) (.inr n22))
   replace w := s87.ok
   refine h_nx ?_
   refine h_ret (h_var rfl ?_)
   obtain ⟨B94, e90, k91, g92, r93⟩ := Mu.keep m20
   replace st := g92 _ _ _ st w0 n22
   replace m_well_here := m_well_here.kp e90 k91 ne23
   replace w := st.ok
   replace r93 : Rep K B94 (.ref p17) (enc a84.2) := r93
   exact P.ok _ _ _ st m_well_here r93
theorem ok__law_chain_right {f : Addr} {fd : FuncData}  (F : Fun K "_law_chain_right" "_law_chain_right" s__law_chain_right f fd) (X__law_chain : Cal Pr wo K mg base "_law_chain" ["_law_well_here"] CX0 2 (sp__law_chain K)) (X__law_asked : Cal Pr wo K mg base "_law_asked" ["_law_leaves_here", "_law_handed", "_law_came_here", "_law_number", "_law_cell"] CX0 9 (sp__law_asked K)) (X__law_draw : Cal Pr wo K mg base "_law_draw" ["_law_well_here", "_law_many"] CX0 1 (sp__law_draw K)) (X_leaf_of : Cal Pr wo K mg base "leaf_of" ["told"] (L2.CX Pr wo) 6 (sp_leaf_of K mg)) (bI_dict : mg "dict" = none) (bI_range : mg "range" = none) : FnOk Pr wo K mg base CX0 10 f fd ["_law_well_here"] (sp__law_chain_right K) := by
 obtain ⟨_, _, g__law_chain, k__law_chain, b__law_chain, G__law_chain⟩ := X__law_chain
 obtain ⟨_, _, g__law_asked, k__law_asked, b__law_asked, G__law_asked⟩ := X__law_asked
 obtain ⟨_, _, g__law_draw, k__law_draw, b__law_draw, G__law_draw⟩ := X__law_draw
 obtain ⟨_, _, g_leaf_of, k_leaf_of, b_leaf_of, G_leaf_of⟩ := X_leaf_of
 refine F.ok sc__law_chain_right (fun vs H Q E h => ?_) (fun cdv A outer s H0 vs Q E hr h => ?_)
 ·obtain ⟨_, _, _, _, rfl, _⟩ := h; rfl
 ·obtain ⟨B0, p_well_here, a_well_here, w, rfl, m_well_here, P⟩ := h
  have w0 := w
  have hu := hu_of hr
  have hr1 : Room 1 _ := hr.mono (by decide)
  have hr2 : Room 2 _ := hr.mono (by decide)
  have hr6 : Room 6 _ := hr.mono (by decide)
  have hr9 : Room 9 _ := hr.mono (by decide)
  refine ⟨_, (pss_cons (ps_set (i := 1) sc__law_chain_right.nd rfl (by first | exact Or.inl rfl | exact Or.inr rfl) (pe_call G__law_chain hr2 rfl g__law_chain k__law_chain b__law_chain .nil pass0 (pa_cons (pv 0) pa_nil)))
   (pss_cons (ps_set (i := 2) sc__law_chain_right.nd rfl (by first | exact Or.inl rfl | exact Or.inr rfl) (pe_ix (r := rIxL K) ix_list (pe_lst (pa_cons pe_int (pa_cons (pe_call G__law_draw hr1 rfl g__law_draw k__law_draw b__law_draw .nil pass0 (pa_cons (pv 0) (pa_cons pe_int pa_nil))) pa_nil))) (pe_call G__law_draw hr1 rfl g__law_draw k__law_draw b__law_draw .nil pass0 (pa_cons (pv 0) (pa_cons pe_int pa_nil))) (fun _ _ => rfl)))
   (pss_cons (ps_setLc (i := 3) (own := [("_law_number", 4)]) rfl sc__law_chain_right.nd rfl rfl (sw_true rfl rfl rfl rfl) (pi_range1 (by rfl) bI_range (pa_cons pe_int pa_nil)) (blkOk_by (N := ["_law_well_here", "_law_leaves_here", "_law_gone", "_law_came_here", "_law_number"]) (sc := defScope s__law_chain_right) (by decide +kernel)) (fun _ _ _ _ _ => (pg_name (i := 4) sc__law_chain_right.nd rfl (by first | exact Or.inl rfl | exact Or.inr rfl))) (fun _ _ _ _ _ => (pts_one (pt_cmpR op_ne (pv 4) (pv 2) (nomark _)))) (fun _ _ _ _ _ => (pv 4)))
   (pss_one (ps_ret (pe_call G__law_asked hr9 rfl g__law_asked k__law_asked b__law_asked .nil pass0 (pa_cons (pv 1) (pa_cons (pe_callTy (r := rDictP K) (cr_dict rfl) (by rfl) bI_dict Y.boot_dict (pa_cons (pe_lc (own := [("_law_number", 4)]) rfl sc__law_chain_right.nd (pi_list (pv 3)) (blkOk_by (N := ["_law_well_here", "_law_leaves_here", "_law_gone", "_law_came_here", "_law_number"]) (sc := defScope s__law_chain_right) (by decide +kernel)) (fun _ _ _ _ _ => (pg_name (i := 4) sc__law_chain_right.nd rfl (by first | exact Or.inl rfl | exact Or.inr rfl))) (fun _ _ _ _ _ => pts_nil) (fun _ _ _ _ _ => (pe_tup (pa_cons (pv 4) (pa_cons (pe_call G_leaf_of hr6 rfl g_leaf_of k_leaf_of b_leaf_of .nil passL (pa_cons (pe_ix (r := rIxL K) ix_list (pv 1) (pv 4) (fun _ _ => rfl)) pa_nil)) pa_nil))))) pa_nil)) (pa_cons (pv 3) (pa_cons pe_int (pa_cons pe_int pa_nil))))))))))), ?_⟩
  unfold l_chain_right at P
  have st := Stp.refl (W := [p_well_here]) w
  refine h_set (h_call (h_cons (h_var rfl (h_nil ?_))))
  refine ⟨B0, p_well_here, a_well_here, w, rfl, m_well_here, (P.bind).mono (fun x1 P => ?_) (fun _ z => z)⟩
  refine fun v5 B2 H3 s4 m_well_here r6 => ?_
  replace st := st.go s4 (go1 (.inl (by simp)))
  replace w := s4.ok
  refine h_set (h_op (h_lst (h_cons (h_c (h_cons (h_call (h_cons (h_var rfl (h_cons (h_c (h_nil ?_)))))))))))
  refine ⟨B2, p_well_here, x1.2, 199, w, rfl, m_well_here, (P.bind).mono (fun x7 P => ?_) (fun _ z => z)⟩
  refine fun v11 B8 H9 s10 m_well_here r12 => ?_
  replace r6 := r6.mono s10.ex
  replace st := st.go s10 (go1 (.inl (by simp)))
  replace w := s10.ok
  cases r12
  refine h_nil ?_
  refine h_newL w (ds := (([0, x7.1] : List Int)).map enc) (K := K) (.cons (Rep.int _) (.cons (Rep.int _) .nil)) (fun p13 B14 H15 s16 r17 => ?_) (by show 2 ≤ sizeLine; decide)
  replace m_well_here := m_well_here.step s16 nm0
  replace r6 := r6.mono s16.ex
  replace st := st.go s16 go0
  replace w := s16.ok
  replace r17 : Rep K B14 (.ref p13) (enc ([0, x7.1] : List Int)) := r17
  refine h_call (h_cons (h_var rfl (h_cons (h_c (h_nil ?_)))))
  refine ⟨B14, p_well_here, x7.2, 2, w, rfl, m_well_here, (P.bind).mono (fun x18 P => ?_) (fun _ z => z)⟩
  refine fun v22 B19 H20 s21 m_well_here r23 => ?_
  replace r6 := r6.mono s21.ex
  replace r17 := r17.mono s21.ex
  replace st := st.go s21 (go1 (.inl (by simp)))
  replace w := s21.ok
  cases r23
  obtain ⟨p24, xs25, hv, hs26, hr27⟩ := Rep.sq w r17
  cases hv
  obtain ⟨x28, hx29, P⟩ := P.ix
  obtain ⟨u30, hu, r31⟩ := RepL.atE hr27 hx29
  refine h_ixL hs26 hu ?_
  cases r31
  refine h_seq <| h_asg ?_
  refine h_lcR1E ?_
  refine h_cons (h_c (h_nil ?_))
  have gz32 : -(2 ^ 62) ≤ (200 : Int) := by decide
  refine h_lcR1 P (fun Dl (acc : List Int) (a : Unit) H' => ∃ B', Stp [] B19 H20 B' H' ∧ H20 Dl = none ∧ Mu K B' H' Dl (acc.map enc) ∧ p_well_here ≠ Dl) (fun Dl hD => ⟨_, Stp.newM w hD, hD, Mu.new w hD .nil, Mu.ne m_well_here hD⟩) ?_ ?_ gz32
  ·rintro Dl33 N34 T35 x36 acc39 a40 H41 ⟨B42, s43, hD44, m45, ne49⟩ hlox36 hhix36 hz46 kk47 kn48 P
   have wj51 := w
   have sj50 := s43
   have n52 := st.nn hD44
   replace m_well_here := m_well_here.step s43 nm0
   replace r6 := r6.mono s43.ex
   replace st := st.go s43 go0
   replace w := s43.ok
   refine h_gname ?_
   refine h_lcI rfl ?_
   refine h_test ?_
   refine h_op (h_var rfl (h_var rfl (h_neI ?_)))
   refine h_bl ?_
   refine h_ite (fun c1 => ?_) (fun c1 => ?_)
   ·replace P := P.iteT c1
    refine h_var rfl ?_
    refine h_app (b := x36) w m45 (Rep.int _) hz46 (fun H53 s54 m45 => ?_)
    replace m_well_here := m_well_here.step s54 (nm1 ne49)
    replace r6 := r6.mono s54.ex
    replace st := st.go s54 (go1 (.inr n52))
    replace sj50 := sj50.go s54 (go1 (.inr hD44))
    replace w := s54.ok
    exact kk47 x36 () _ ⟨_, sj50, hD44, m45, ne49⟩ P.ok
   ·replace P := P.iteF c1
    exact kn48 () _ ⟨_, sj50, hD44, m45, ne49⟩ P.ok
  ·rintro Dl33 acc39 a40 H41 ⟨B42, s43, hD44, m45, ne49⟩ P
   have n55 := st.nn hD44
   replace m_well_here := m_well_here.step s43 nm0
   replace r6 := r6.mono s43.ex
   replace st := st.go s43 go0
   replace w := s43.ok
   replace P := P.un2
   obtain ⟨B60, e56, k57, g58, r59⟩ := Mu.keep m45
   replace st := g58 _ _ _ st w0 n55
   replace m_well_here := m_well_here.kp e56 k57 ne49
   replace r6 := r6.mono e56
   replace w := st.ok
   replace r59 : Rep K B60 (.ref Dl33) (enc acc39) := r59
   refine h_gname ?_
   refine h_nx ?_
   refine h_ret (h_call (h_cons (h_var rfl (h_cons (h_cb (h_cons (h_lcE ?_)))))))
   refine h_var rfl ?_
   obtain ⟨p61, xs62, hv, hb63, hr64⟩ := Rep.sqB r59
   cases hv
   refine h_lcL P (w.l hb63) hr64 (fun Dl (acc : List (Tp2 Int K_Leaf)) (a : Unit) H' => ∃ B', Stp [] B60 H41 B' H' ∧ H41 Dl = none ∧ Mu K B' H' Dl (acc.map enc) ∧ p_well_here ≠ Dl) (fun Dl hD => ⟨_, Stp.newM w hD, hD, Mu.new w hD .nil, Mu.ne m_well_here hD⟩) (fun _ _ _ _ j => ?_) ?_ ?_
   ·obtain ⟨B74, s75, hD76, m77, ne81⟩ := j
    exact s75.ok.l (s75.ex.l hb63)
   ·rintro Dl65 N66 T67 x68 v69 acc71 a72 H73 ⟨B74, s75, hD76, m77, ne81⟩ r70 hz78 kk79 kn80 P
    have wj83 := w
    have sj82 := s75
    have n84 := st.nn hD76
    replace m_well_here := m_well_here.step s75 nm0
    replace r6 := r6.mono s75.ex
    replace r59 := r59.mono s75.ex
    replace st := st.go s75 go0
    replace w := s75.ok
    replace r70 := r70.mono s75.ex
    cases r70
    refine h_gname ?_
    refine h_lcT rfl ?_
    refine h_tup ?_
    refine h_cons (h_var rfl (h_cons (h_call (h_cons (h_op (h_var rfl (h_var rfl ?_)))))))
    obtain ⟨p85, xs86, rfl, hs87, hr88⟩ := Rep.sq w r6
    obtain ⟨x89, hx90, P⟩ := P.ix
    obtain ⟨u91, hu, r92⟩ := RepL.atE hr88 hx90
    refine h_ixL hs87 hu ?_
    refine h_nil ?_
    refine ⟨B74, u91, x89, w, rfl, r92, (P.bind.noErr).mono (fun x93 P => ?_) (fun _ z => z.elim)⟩
    refine fun v97 B94 H95 s96 r98 => ?_
    replace m_well_here := m_well_here.step s96 nm0
    replace r6 := r6.mono s96.ex
    replace r59 := r59.mono s96.ex
    replace m77 := m77.step s96 nm0
    replace r92 := r92.mono s96.ex
    replace st := st.go s96 go0
    replace sj82 := sj82.go s96 go0
    replace w := s96.ok
    refine h_nil ?_
    refine h_newT w (K := K) (.cons (Rep.int _) (.cons r98 .nil)) (fun p99 B100 H101 s102 r103 => ?_) (by show 2 ≤ sizeLine; decide)
    replace m_well_here := m_well_here.step s102 nm0
    replace r6 := r6.mono s102.ex
    replace r59 := r59.mono s102.ex
    replace m77 := m77.step s102 nm0
    replace st := st.go s102 go0
    replace sj82 := sj82.go s102 go0
    replace w := s102.ok
    replace r103 : Rep K B100 (.ref p99) (enc (⟨x68, x93⟩ : (Tp2 Int K_Leaf))) := r103
    refine h_app (b := (⟨x68, x93⟩ : (Tp2 Int K_Leaf))) w m77 r103 hz78 (fun H104 s105 m77 => ?_)
    replace m_well_here := m_well_here.step s105 (nm1 ne81)
    replace r6 := r6.mono s105.ex
    replace r59 := r59.mono s105.ex
    replace st := st.go s105 (go1 (.inr n84))
    replace sj82 := sj82.go s105 (go1 (.inr hD76))
    replace w := s105.ok
    exact kk79 (⟨x68, x93⟩ : (Tp2 Int K_Leaf)) () _ ⟨_, sj82, hD76, m77, ne81⟩ P.ok
   ·rintro Dl65 acc71 a72 H73 ⟨B74, s75, hD76, m77, ne81⟩ P
    have n106 := st.nn hD76
    replace m_well_here := m_well_here.step s75 nm0
    replace r6 := r6.mono s75.ex
    replace r59 := r59.mono s75.ex
    replace st := st.go s75 go0
    replace w := s75.ok
    replace P := P.un2
    obtain ⟨B111, e107, k108, g109, r110⟩ := Mu.keep m77
    replace st := g109 _ _ _ st w0 n106
    replace m_well_here := m_well_here.kp e107 k108 ne81
    replace r6 := r6.mono e107
    replace r59 := r59.mono e107
    replace w := st.ok
    replace r110 : Rep K B111 (.ref Dl65) (enc acc71) := r110
    refine h_nil ?_
    obtain ⟨p112, xs113, hv, hs114, hr115⟩ := Rep.sq w r110
    cases hv
    refine h_dictA w hs114 hr115 (fun p116 H117 hn120 s118 m119 => ?_)
    have n121 := st.nn hn120
    have ne122 := Mu.ne m_well_here hn120
    replace m_well_here := m_well_here.step s118 nm0
    replace r6 := r6.mono s118.ex
    replace r59 := r59.mono s118.ex
    replace st := st.go s118 go0
    replace w := s118.ok
    refine h_cons (h_var rfl (h_cons (h_c (h_cons (h_c (h_nil ?_))))))
    refine ⟨B111, v5, x1.1, p116, (mergeA [] (prsA acc71) : (List (Int × K_Leaf))), (.ref Dl33), acc39, 199, 0, w, rfl, (Rep.bor0 w r6), m119, r59, (P.bind).mono (fun x123 P => ?_) (fun _ z => z)⟩
    refine fun v127 B124 H125 s126 r128 => ?_
    replace m_well_here := m_well_here.step s126 nm0
    replace r6 := r6.mono s126.ex
    replace r59 := r59.mono s126.ex
    replace m119 := m119.step s126 nm0
    replace st := st.go s126 go0
    replace w := s126.ok
    cases r128
    exact P.ok _ _ _ st m_well_here (Rep.bl _)
theorem ok_law {f : Addr} {fd : FuncData}  (F : Fun K "law" "law" s_law f fd) (X__law_well : Cal Pr wo K mg base "_law_well" ["_law_script", "_law_k"] CX0 2 (sp__law_well K)) (X__law_leaves : Cal Pr wo K mg base "_law_leaves" ["_law_well_here", "_law_many", "_law_wide"] CX0 5 (sp__law_leaves K)) (X__law_came : Cal Pr wo K mg base "_law_came" ["_law_well_here", "_law_many"] CX0 2 (sp__law_came K)) (X__law_draw : Cal Pr wo K mg base "_law_draw" ["_law_well_here", "_law_many"] CX0 1 (sp__law_draw K)) (X__law_asked : Cal Pr wo K mg base "_law_asked" ["_law_leaves_here", "_law_handed", "_law_came_here", "_law_number", "_law_cell"] CX0 9 (sp__law_asked K)) (X__law_chain_right : Cal Pr wo K mg base "_law_chain_right" ["_law_well_here"] CX0 10 (sp__law_chain_right K)) (X_leaf_of : Cal Pr wo K mg base "leaf_of" ["told"] (L2.CX Pr wo) 6 (sp_leaf_of K mg)) (bI_dict : mg "dict" = none) (bI_range : mg "range" = none) (bI_len : mg "len" = none) (bI_sorted : mg "sorted" = none) (bI_list : mg "list" = none) : FnOk Pr wo K mg base CX0 11 f fd ["_law_script"] (sp_law K) := by
 obtain ⟨_, _, g__law_well, k__law_well, b__law_well, G__law_well⟩ := X__law_well
 obtain ⟨_, _, g__law_leaves, k__law_leaves, b__law_leaves, G__law_leaves⟩ := X__law_leaves
 obtain ⟨_, _, g__law_came, k__law_came, b__law_came, G__law_came⟩ := X__law_came
 obtain ⟨_, _, g__law_draw, k__law_draw, b__law_draw, G__law_draw⟩ := X__law_draw
 obtain ⟨_, _, g__law_asked, k__law_asked, b__law_asked, G__law_asked⟩ := X__law_asked
 obtain ⟨_, _, g__law_chain_right, k__law_chain_right, b__law_chain_right, G__law_chain_right⟩ := X__law_chain_right
 obtain ⟨_, _, g_leaf_of, k_leaf_of, b_leaf_of, G_leaf_of⟩ := X_leaf_of
 refine F.ok sc_law (fun vs H Q E h => ?_) (fun cdv A outer s H0 vs Q E hr h => ?_)
 ·obtain ⟨_, _, _, _, rfl, _⟩ := h; rfl
 ·obtain ⟨B0, v_script, a_script, w, rfl, r_script, P⟩ := h
  have w0 := w
  have hu := hu_of hr
  have hu64 := hu64_of hr
  have hr1 : Room 1 _ := hr.mono (by decide)
  have hr2 : Room 2 _ := hr.mono (by decide)
  have hr5 : Room 5 _ := hr.mono (by decide)
  have hr6 : Room 6 _ := hr.mono (by decide)
  have hr9 : Room 9 _ := hr.mono (by decide)
  have hr10 : Room 10 _ := hr.mono (by decide)
  refine ⟨_, (pss_cons (ps_set (i := 1) sc_law.nd rfl (.inl rfl) (pe_call G__law_well hr2 rfl g__law_well k__law_well b__law_well .nil pass0 (pa_cons (pv 0) (pa_cons pe_int pa_nil))))
   (pss_cons (ps_set (i := 2) sc_law.nd rfl (by first | exact Or.inl rfl | exact Or.inr rfl) (pe_ix (r := rIxL K) ix_list (pe_lst (pa_cons pe_int (pa_cons pe_int (pa_cons (pe_op op_add pe_int (pe_call G__law_draw hr1 rfl g__law_draw k__law_draw b__law_draw .nil pass0 (pa_cons (pv 1) (pa_cons pe_int pa_nil)))) (pa_cons (pe_op op_add pe_int (pe_call G__law_draw hr1 rfl g__law_draw k__law_draw b__law_draw .nil pass0 (pa_cons (pv 1) (pa_cons pe_int pa_nil)))) pa_nil))))) (pe_call G__law_draw hr1 rfl g__law_draw k__law_draw b__law_draw .nil pass0 (pa_cons (pv 1) (pa_cons pe_int pa_nil))) (fun _ _ => rfl)))
   (pss_cons (ps_set (i := 3) sc_law.nd rfl (by first | exact Or.inl rfl | exact Or.inr rfl) (pe_call G__law_leaves hr5 rfl g__law_leaves k__law_leaves b__law_leaves .nil pass0 (pa_cons (pv 1) (pa_cons (pe_op op_add pe_int (pe_call G__law_draw hr1 rfl g__law_draw k__law_draw b__law_draw .nil pass0 (pa_cons (pv 1) (pa_cons (pe_ix (r := rIxL K) ix_list (pe_lst (pa_cons pe_int (pa_cons pe_int (pa_cons pe_int pa_nil)))) (pe_call G__law_draw hr1 rfl g__law_draw k__law_draw b__law_draw .nil pass0 (pa_cons (pv 1) (pa_cons pe_int pa_nil))) (fun _ _ => rfl)) pa_nil)))) (pa_cons (pv 2) pa_nil)))))
   (pss_cons (ps_set (i := 4) sc_law.nd rfl (by first | exact Or.inl rfl | exact Or.inr rfl) (pe_call G__law_came hr2 rfl g__law_came k__law_came b__law_came .nil pass0 (pa_cons (pe_call G__law_well hr2 rfl g__law_well k__law_well b__law_well .nil pass0 (pa_cons (pv 0) (pa_cons pe_int pa_nil))) (pa_cons (pe_callB (r := rLenY K) cr_len (by rfl) bI_len PySem.boot_len (pa_cons (pv 3) pa_nil)) pa_nil))))
   (pss_cons (ps_set (i := 5) sc_law.nd rfl (.inl rfl) (pe_callTy (r := rDictP K) (cr_dict rfl) (by rfl) bI_dict Y.boot_dict (pa_cons (pe_lc (own := [("_law_number", 6)]) rfl sc_law.nd (pi_list (pv 4)) (blkOk_by (N := ["_law_script", "_law_well_here", "_law_wide", "_law_leaves_here", "_law_came_here", "_law_handed", "_law_number", "_law_asking", "_law_pairs", "_law_k", "_law_cell"]) (sc := defScope s_law) (by decide +kernel)) (fun _ _ _ _ _ => (pg_name (i := 6) sc_law.nd rfl (by first | exact Or.inl rfl | exact Or.inr rfl))) (fun _ _ _ _ _ => pts_nil) (fun _ _ _ _ _ => (pe_tup (pa_cons (pv 6) (pa_cons (pe_call G_leaf_of hr6 rfl g_leaf_of k_leaf_of b_leaf_of .nil passL (pa_cons (pe_ix (r := rIxL K) ix_list (pv 3) (pv 6) (fun _ _ => rfl)) pa_nil)) pa_nil))))) pa_nil)))
   (pss_cons (ps_set (i := 7) sc_law.nd rfl (.inl rfl) (pe_call G__law_well hr2 rfl g__law_well k__law_well b__law_well .nil pass0 (pa_cons (pv 0) (pa_cons pe_int pa_nil))))
   (pss_cons (ps_set (i := 8) sc_law.nd rfl (.inl rfl) (pe_op (r := rCatQ K) op_catQ (pe_lc (own := [("_law_k", 9)]) rfl sc_law.nd (pi_range1 (by rfl) bI_range (pa_cons pe_int pa_nil)) (blkOk_by (N := ["_law_script", "_law_well_here", "_law_wide", "_law_leaves_here", "_law_came_here", "_law_handed", "_law_number", "_law_asking", "_law_pairs", "_law_k", "_law_cell"]) (sc := defScope s_law) (by decide +kernel)) (fun _ _ _ _ _ => (pg_name (i := 9) sc_law.nd rfl (by first | exact Or.inl rfl | exact Or.inr rfl))) (fun _ _ _ _ _ => pts_nil) (fun _ _ _ _ _ => (pe_tup (pa_cons (pe_op op_sub (pe_callB (r := rLenY K) cr_len (by rfl) bI_len PySem.boot_len (pa_cons (pv 3) pa_nil)) pe_int) (pa_cons (pe_op op_mod (pv 9) (pv 2)) pa_nil))))) (pe_lst (pa_cons (pe_tup (pa_cons (pe_op op_add (pe_callB (r := rLenY K) cr_len (by rfl) bI_len PySem.boot_len (pa_cons (pv 3) pa_nil)) (pe_call G__law_draw hr1 rfl g__law_draw k__law_draw b__law_draw .nil pass0 (pa_cons (pv 7) (pa_cons pe_int pa_nil)))) (pa_cons pe_int pa_nil))) pa_nil))))
   (pss_cons (ps_for PassesOwn.never rfl (pi_range1 (by rfl) bI_range (pa_cons pe_int pa_nil)) (pg_name (i := 9) sc_law.nd rfl (by first | exact Or.inl rfl | exact Or.inr rfl)) (pss_one (ps_expr (pe_bm PySem.F.plainAttrs_list PySem.F.slot_list_append PySem.F.type_list_append mt_append (pv 8) (pa_cons (pe_tup (pa_cons (pe_call G__law_draw hr1 rfl g__law_draw k__law_draw b__law_draw .nil pass0 (pa_cons (pv 7) (pa_cons (pe_callB (r := rLenY K) cr_len (by rfl) bI_len PySem.boot_len (pa_cons (pv 3) pa_nil)) pa_nil))) (pa_cons (pe_call G__law_draw hr1 rfl g__law_draw k__law_draw b__law_draw .nil pass0 (pa_cons (pv 7) (pa_cons (pv 2) pa_nil))) pa_nil))) pa_nil)))))
   (pss_cons (ps_for PassesOwn.never rfl (pi_list (pe_op (r := rCatQ K) op_catQ (pv 8) (pe_slice (r := rSlQ K) sl_Q (pv 8) po_none (po_some pe_int)))) (pg_tupK (K := K) (n := 2) rfl rfl (pgs_cons (pg_name (i := 6) sc_law.nd rfl (by first | exact Or.inl rfl | exact Or.inr rfl)) (pgs_cons (pg_name (i := 10) sc_law.nd rfl (.inl rfl)) pgs_nil))) (pss_one (ps_if (pt_not (pt_val (pe_call G__law_asked hr9 rfl g__law_asked k__law_asked b__law_asked .nil pass0 (pa_cons (pv 3) (pa_cons (pv 5) (pa_cons (pv 4) (pa_cons (pv 6) (pa_cons (pv 10) pa_nil)))))))) (pss_one (ps_ret pe_bl)) pss_nil)))
   (pss_cons (ps_if (PW.pt (pw_and (pt_cmpR op_eq (pe_call G__law_draw hr1 rfl g__law_draw k__law_draw b__law_draw .nil pass0 (pa_cons (pe_call G__law_well hr2 rfl g__law_well k__law_well b__law_well .nil pass0 (pa_cons (pv 0) (pa_cons pe_int pa_nil))) (pa_cons pe_int pa_nil))) pe_int (nomark _)) (pw_and1 (pt_not (pt_val (pe_call G__law_chain_right hr10 rfl g__law_chain_right k__law_chain_right b__law_chain_right .nil pass0 (pa_cons (pe_call G__law_well hr2 rfl g__law_well k__law_well b__law_well .nil pass0 (pa_cons (pv 0) (pa_cons pe_int pa_nil))) pa_nil))))))) (pss_one (ps_ret pe_bl)) pss_nil)
   (pss_one (ps_ret (pe_cmpR (r := rEqD K) (op_eqD hu64) (pe_callB (r := rSortedI K) cr_sortedI (by rfl) bI_sorted PyProof.Rows.boot_sorted (pa_cons (pe_callTy (r := rListD) (cr_listK rfl) (by rfl) bI_list Y.boot_list (pa_cons (pv 5) pa_nil)) pa_nil)) (pv 4) (nomark _)))))))))))))), ?_⟩
  unfold m_law at P
  have st := Stp.refl (W := []) w
  refine h_set (h_call (h_cons (h_var rfl (h_cons (h_c (h_nil ?_))))))
  refine ⟨B0, v_script, a_script, 0, w, rfl, ((r_script.step st).w sub0), (P.bind).mono (fun x1 P => ?_) (fun _ z => z)⟩
  refine fun p7 B2 H3 s4 hn8 m9 => ?_
  have n11 := st.nn hn8
  replace st := st.go s4 go0
  replace w := s4.ok
  try dsimp only
  refine h_nrm (σ' := [some (v_script), some ((.ref p7)), none, none, none, none, none, none, none, none, none]) ?_
  refine h_set (h_op (h_lst (h_cons (h_c (h_cons (h_c (h_cons (h_op (h_c (h_call (h_cons (h_var rfl (h_cons (h_c (h_nil ?_)))))))))))))))
  refine ⟨B2, p7, x1, 16, w, rfl, m9, (P.bind).mono (fun x12 P => ?_) (fun _ z => z)⟩
  refine fun v16 B13 H14 s15 m9 r17 => ?_
  replace st := st.go s15 (go1 (.inr n11))
  replace w := s15.ok
  cases r17
  refine h_I0 (h_cons (h_op (h_c (h_call (h_cons (h_var rfl (h_cons (h_c (h_nil ?_)))))))))
  refine ⟨B13, p7, x12.2, 4, w, rfl, m9, (P.bind).mono (fun x18 P => ?_) (fun _ z => z)⟩
  refine fun v22 B19 H20 s21 m9 r23 => ?_
  replace st := st.go s21 (go1 (.inr n11))
  replace w := s21.ok
  cases r23
  refine h_I0 (h_nil ?_)
  refine h_newL w (ds := (([1, 16, (1 + x12.1), (1 + x18.1)] : List Int)).map enc) (K := K) (.cons (Rep.int _) (.cons (Rep.int _) (.cons (Rep.int _) (.cons (Rep.int _) .nil)))) (fun p24 B25 H26 s27 r28 => ?_) (by show 4 ≤ sizeLine; decide)
  replace m9 := m9.step s27 nm0
  replace st := st.go s27 go0
  replace w := s27.ok
  replace r28 : Rep K B25 (.ref p24) (enc ([1, 16, (1 + x12.1), (1 + x18.1)] : List Int)) := r28
  replace P := P.lt
  generalize hx : (([1, 16, (1 + x12.1), (1 + x18.1)] : List Int) : (List Int)) = x29 at P r28 ⊢
  refine h_call (h_cons (h_var rfl (h_cons (h_c (h_nil ?_)))))
  refine ⟨B25, p7, x18.2, 4, w, rfl, m9, (P.bind).mono (fun x30 P => ?_) (fun _ z => z)⟩
  refine fun v34 B31 H32 s33 m9 r35 => ?_
  replace r28 := r28.mono s33.ex
  replace st := st.go s33 (go1 (.inr n11))
  replace w := s33.ok
  cases r35
  obtain ⟨p36, xs37, hv, hs38, hr39⟩ := Rep.sq w r28
  cases hv
  obtain ⟨x40, hx41, P⟩ := P.ix
  obtain ⟨u42, hu, r43⟩ := RepL.atE hr39 hx41
  refine h_ixL hs38 hu ?_
  cases r43
  try dsimp only
  refine h_nrm (σ' := [some (v_script), some ((.ref p7)), some (.int x40), none, none, none, none, none, none, none, none]) ?_
  refine h_set (h_call (h_cons (h_var rfl (h_cons (h_op (h_c (h_call (h_cons (h_var rfl (h_cons (h_op (h_lst (h_cons (h_c (h_cons (h_c (h_cons (h_c (h_nil ?_)))))))))))))))))))
  refine h_newL w (ds := (([4, 12, 30] : List Int)).map enc) (K := K) (.cons (Rep.int _) (.cons (Rep.int _) (.cons (Rep.int _) .nil))) (fun p44 B45 H46 s47 r48 => ?_) (by show 3 ≤ sizeLine; decide)
  replace m9 := m9.step s47 nm0
  replace st := st.go s47 go0
  replace w := s47.ok
  replace r48 : Rep K B45 (.ref p44) (enc ([4, 12, 30] : List Int)) := r48
  replace P := P.lt
  generalize hx : (([4, 12, 30] : List Int) : (List Int)) = x49 at P r48 ⊢
  refine h_call (h_cons (h_var rfl (h_cons (h_c (h_nil ?_)))))
  refine ⟨B45, p7, x30.2, 3, w, rfl, m9, (P.bind).mono (fun x50 P => ?_) (fun _ z => z)⟩
  refine fun v54 B51 H52 s53 m9 r55 => ?_
  replace r48 := r48.mono s53.ex
  replace st := st.go s53 (go1 (.inr n11))
  replace w := s53.ok
  cases r55
  obtain ⟨p56, xs57, hv, hs58, hr59⟩ := Rep.sq w r48
  cases hv
  obtain ⟨x60, hx61, P⟩ := P.ix
  obtain ⟨u62, hu, r63⟩ := RepL.atE hr59 hx61
  refine h_ixL hs58 hu ?_
  cases r63
  refine h_nil ?_
  refine ⟨B51, p7, x50.2, x60, w, rfl, m9, (P.bind).mono (fun x64 P => ?_) (fun _ z => z)⟩
  refine fun v68 B65 H66 s67 m9 r69 => ?_
  replace st := st.go s67 (go1 (.inr n11))
  replace w := s67.ok
  cases r69
  refine h_I0 (h_cons (h_var rfl (h_nil ?_)))
  refine ⟨B65, p7, x64.2, (1 + x64.1), x40, w, rfl, m9, (P.bind).mono (fun x70 P => ?_) (fun _ z => z)⟩
  refine fun v74 B71 H72 s73 m9 r75 => ?_
  replace st := st.go s73 (go1 (.inr n11))
  replace w := s73.ok
  try dsimp only
  refine h_nrm (σ' := [some (v_script), some ((.ref p7)), some (.int x40), some (v74), none, none, none, none, none, none, none]) ?_
  refine h_set (h_call (h_cons (h_call (h_cons (h_var rfl (h_cons (h_c (h_nil ?_))))))))
  refine ⟨B71, v_script, a_script, 1, w, rfl, ((r_script.step st).w sub0), (P.bind).mono (fun x76 P => ?_) (fun _ z => z)⟩
  refine fun p82 B77 H78 s79 hn83 m84 => ?_
  have n86 := st.nn hn83
  have ne87 := Mu.ne m9 hn83
  replace m9 := m9.step s79 nm0
  replace r75 := r75.mono s79.ex
  replace st := st.go s79 go0
  replace w := s79.ok
  refine h_cons (h_cb (h_cons (h_var rfl (h_nil ?_))))
  obtain ⟨p88, xs89, rfl, hs90, hr91⟩ := Rep.sq w r75
  refine h_len hs90 hr91 ?_
  refine h_nil ?_
  refine ⟨B77, p82, x76, (x70.1.length : Int), w, rfl, m84, (P.bind).mono (fun x92 P => ?_) (fun _ z => z)⟩
  refine fun v96 B93 H94 s95 m84 r97 => ?_
  replace m9 := m9.step s95 (nm1 ne87)
  replace r75 := r75.mono s95.ex
  replace st := st.go s95 (go1 (.inr n86))
  replace w := s95.ok
  try dsimp only
  refine h_nrm (σ' := [some (v_script), some ((.ref p7)), some (.int x40), some ((.ref p88)), some (v96), none, none, none, none, none, none]) ?_
  refine h_set (h_cb (h_cons (h_lcE ?_)))
  refine h_var rfl ?_
  obtain ⟨p98, xs99, rfl, hb100, hr101⟩ := Rep.sqB r97
  refine h_lcL P (w.l hb100) hr101 (fun Dl (acc : List (Tp2 Int K_Leaf)) (a : Unit) H' => ∃ B', Stp [] B93 H94 B' H' ∧ H94 Dl = none ∧ Mu K B' H' Dl (acc.map enc) ∧ p7 ≠ Dl) (fun Dl hD => ⟨_, Stp.newM w hD, hD, Mu.new w hD .nil, Mu.ne m9 hD⟩) (fun _ _ _ _ j => ?_) ?_ ?_
  ·obtain ⟨B111, s112, hD113, m114, ne118⟩ := j
   exact s112.ok.l (s112.ex.l hb100)
  ·rintro Dl102 N103 T104 x105 v106 acc108 a109 H110 ⟨B111, s112, hD113, m114, ne118⟩ r107 hz115 kk116 kn117 P
   have wj120 := w
   have sj119 := s112
   have n121 := st.nn hD113
   replace m9 := m9.step s112 nm0
   replace r75 := r75.mono s112.ex
   replace r97 := r97.mono s112.ex
   replace st := st.go s112 go0
   replace w := s112.ok
   replace r107 := r107.mono s112.ex
   cases r107
   refine h_gname ?_
   refine h_lcT rfl ?_
   refine h_tup ?_
   refine h_cons (h_var rfl (h_cons (h_call (h_cons (h_op (h_var rfl (h_var rfl ?_)))))))
   obtain ⟨p122, xs123, hv, hs124, hr125⟩ := Rep.sq w r75
   cases hv
   obtain ⟨x126, hx127, P⟩ := P.ix
   obtain ⟨u128, hu, r129⟩ := RepL.atE hr125 hx127
   refine h_ixL hs124 hu ?_
   refine h_nil ?_
   refine ⟨B111, u128, x126, w, rfl, r129, (P.bind.noErr).mono (fun x130 P => ?_) (fun _ z => z.elim)⟩
   refine fun v134 B131 H132 s133 r135 => ?_
   replace m9 := m9.step s133 nm0
   replace r75 := r75.mono s133.ex
   replace r97 := r97.mono s133.ex
   replace m114 := m114.step s133 nm0
   replace r129 := r129.mono s133.ex
   replace st := st.go s133 go0
   replace sj119 := sj119.go s133 go0
   replace w := s133.ok
   refine h_nil ?_
   refine h_newT w (K := K) (.cons (Rep.int _) (.cons r135 .nil)) (fun p136 B137 H138 s139 r140 => ?_) (by show 2 ≤ sizeLine; decide)
   replace m9 := m9.step s139 nm0
   replace r75 := r75.mono s139.ex
   replace r97 := r97.mono s139.ex
   replace m114 := m114.step s139 nm0
   replace st := st.go s139 go0
   replace sj119 := sj119.go s139 go0
   replace w := s139.ok
   replace r140 : Rep K B137 (.ref p136) (enc (⟨x105, x130⟩ : (Tp2 Int K_Leaf))) := r140
   refine h_app (b := (⟨x105, x130⟩ : (Tp2 Int K_Leaf))) w m114 r140 hz115 (fun H141 s142 m114 => ?_)
   replace m9 := m9.step s142 (nm1 ne118)
   replace r75 := r75.mono s142.ex
   replace r97 := r97.mono s142.ex
   replace st := st.go s142 (go1 (.inr n121))
   replace sj119 := sj119.go s142 (go1 (.inr hD113))
   replace w := s142.ok
   exact kk116 (⟨x105, x130⟩ : (Tp2 Int K_Leaf)) () _ ⟨_, sj119, hD113, m114, ne118⟩ P.ok
  ·rintro Dl102 acc108 a109 H110 ⟨B111, s112, hD113, m114, ne118⟩ P
   have n143 := st.nn hD113
   replace m9 := m9.step s112 nm0
   replace r75 := r75.mono s112.ex
   replace r97 := r97.mono s112.ex
   replace st := st.go s112 go0
   replace w := s112.ok
   replace P := P.un2
   obtain ⟨B148, e144, k145, g146, r147⟩ := Mu.keep m114
   replace st := g146 _ _ _ st w0 n143
   replace m9 := m9.kp e144 k145 ne118
   replace r75 := r75.mono e144
   replace r97 := r97.mono e144
   replace w := st.ok
   replace r147 : Rep K B148 (.ref Dl102) (enc acc108) := r147
   refine h_nil ?_
   obtain ⟨p149, xs150, hv, hs151, hr152⟩ := Rep.sq w r147
   cases hv
   refine h_dictA w hs151 hr152 (fun p153 H154 hn157 s155 m156 => ?_)
   have n158 := st.nn hn157
   have ne159 := Mu.ne m9 hn157
   replace m9 := m9.step s155 nm0
   replace r75 := r75.mono s155.ex
   replace r97 := r97.mono s155.ex
   replace st := st.go s155 go0
   replace w := s155.ok
   try dsimp only
   refine h_nrm (σ' := [some (v_script), some ((.ref p7)), some (.int x40), some ((.ref p88)), some ((.ref p98)), some ((.ref p153)), none, none, none, none, none]) ?_
   refine h_set (h_call (h_cons (h_var rfl (h_cons (h_c (h_nil ?_))))))
   refine ⟨B148, v_script, a_script, 2, w, rfl, ((r_script.step st).w sub0), (P.bind).mono (fun x160 P => ?_) (fun _ z => z)⟩
   refine fun p166 B161 H162 s163 hn167 m168 => ?_
   have n170 := st.nn hn167
   have ne171 := Mu.ne m9 hn167
   have ne172 := MuK.ne m156 hn167
   replace m9 := m9.step s163 nm0
   replace r75 := r75.mono s163.ex
   replace r97 := r97.mono s163.ex
   replace m156 := m156.step s163 nm0
   replace st := st.go s163 go0
   replace w := s163.ok
   try dsimp only
   refine h_nrm (σ' := [some (v_script), some ((.ref p7)), some (.int x40), some ((.ref p88)), some ((.ref p98)), some ((.ref p153)), none, some ((.ref p166)), none, none, none]) ?_
   refine h_set (h_op (h_lcR1E ?_))
   refine h_cons (h_c (h_nil ?_))
   have gz173 : -(2 ^ 62) ≤ (4 : Int) := by decide
   refine h_lcR1 P (fun Dl (acc : List Qf) (a : Unit) H' => ∃ B', Stp [] B161 H162 B' H' ∧ H162 Dl = none ∧ Mu K B' H' Dl (acc.map enc) ∧ p7 ≠ Dl ∧ p153 ≠ Dl ∧ p166 ≠ Dl) (fun Dl hD => ⟨_, Stp.newM w hD, hD, Mu.new w hD .nil, Mu.ne m9 hD, MuK.ne m156 hD, Mu.ne m168 hD⟩) ?_ ?_ gz173
   ·rintro Dl174 N175 T176 x177 acc180 a181 H182 ⟨B183, s184, hD185, m186, ne190, ne191, ne192⟩ hlox177 hhix177 hz187 kk188 kn189 P
    have wj194 := w
    have sj193 := s184
    have n195 := st.nn hD185
    replace m9 := m9.step s184 nm0
    replace r75 := r75.mono s184.ex
    replace r97 := r97.mono s184.ex
    replace m156 := m156.step s184 nm0
    replace m168 := m168.step s184 nm0
    replace st := st.go s184 go0
    replace w := s184.ok
    refine h_gname ?_
    refine h_lcT rfl ?_
    refine h_tup ?_
    refine h_cons (h_op (h_cb (h_cons (h_var rfl (h_nil ?_)))))
    obtain ⟨p196, xs197, hv, hs198, hr199⟩ := Rep.sq w r75
    cases hv
    refine h_len hs198 hr199 ?_
    refine h_c (h_I0 (h_cons (h_op (h_var rfl (h_var rfl ?_)))))
    obtain ⟨gd, P⟩ := P.guard
    refine h_I gd ?_
    refine h_nil ?_
    refine h_newT w (K := K) (.cons (Rep.int _) (.cons (Rep.int _) .nil)) (fun p200 B201 H202 s203 r204 => ?_) (by show 2 ≤ sizeLine; decide)
    replace m9 := m9.step s203 nm0
    replace r75 := r75.mono s203.ex
    replace r97 := r97.mono s203.ex
    replace m156 := m156.step s203 nm0
    replace m168 := m168.step s203 nm0
    replace m186 := m186.step s203 nm0
    replace st := st.go s203 go0
    replace sj193 := sj193.go s203 go0
    replace w := s203.ok
    replace r204 : Rep K B201 (.ref p200) (enc (⟨((x70.1.length : Int) - 1), (x177 % x40)⟩ : Qf)) := r204
    refine h_app (b := (⟨((x70.1.length : Int) - 1), (x177 % x40)⟩ : Qf)) w m186 r204 hz187 (fun H205 s206 m186 => ?_)
    replace m9 := m9.step s206 (nm1 ne190)
    replace r75 := r75.mono s206.ex
    replace r97 := r97.mono s206.ex
    replace m156 := m156.step s206 (nm1 ne191)
    replace m168 := m168.step s206 (nm1 ne192)
    replace st := st.go s206 (go1 (.inr n195))
    replace sj193 := sj193.go s206 (go1 (.inr hD185))
    replace w := s206.ok
    exact kk188 (⟨((x70.1.length : Int) - 1), (x177 % x40)⟩ : Qf) () _ ⟨_, sj193, hD185, m186, ne190, ne191, ne192⟩ P.ok
   ·rintro Dl174 acc180 a181 H182 ⟨B183, s184, hD185, m186, ne190, ne191, ne192⟩ P
    have n207 := st.nn hD185
    replace m9 := m9.step s184 nm0
    replace r75 := r75.mono s184.ex
    replace r97 := r97.mono s184.ex
    replace m156 := m156.step s184 nm0
    replace m168 := m168.step s184 nm0
    replace st := st.go s184 go0
    replace w := s184.ok
    replace P := P.un2
    obtain ⟨B212, e208, k209, g210, r211⟩ := Mu.keep m186
    replace st := g210 _ _ _ st w0 n207
    replace m9 := m9.kp e208 k209 ne190
    replace r75 := r75.mono e208
    replace r97 := r97.mono e208
    replace m156 := m156.kp e208 k209 ne191
    replace m168 := m168.kp e208 k209 ne192
    replace w := st.ok
    replace r211 : Rep K B212 (.ref Dl174) (enc acc180) := r211
    refine h_lst (h_cons (h_tup ?_))
    refine h_cons (h_op (h_cb (h_cons (h_var rfl (h_nil ?_)))))
    obtain ⟨p213, xs214, hv, hs215, hr216⟩ := Rep.sq w r75
    cases hv
    refine h_len hs215 hr216 ?_
    refine h_call (h_cons (h_var rfl (h_cons (h_c (h_nil ?_)))))
    refine ⟨B212, p166, x160, 9, w, rfl, m168, (P.bind).mono (fun x217 P => ?_) (fun _ z => z)⟩
    refine fun v221 B218 H219 s220 m168 r222 => ?_
    replace m9 := m9.step s220 (nm1 ne171)
    replace r75 := r75.mono s220.ex
    replace r97 := r97.mono s220.ex
    replace m156 := m156.step s220 (nm1 ne172)
    replace r211 := r211.mono s220.ex
    replace st := st.go s220 (go1 (.inr n170))
    replace w := s220.ok
    cases r222
    refine h_I0 (h_cons (h_c (h_nil ?_)))
    refine h_newT w (K := K) (.cons (Rep.int _) (.cons (Rep.int _) .nil)) (fun p223 B224 H225 s226 r227 => ?_) (by show 2 ≤ sizeLine; decide)
    replace m9 := m9.step s226 nm0
    replace r75 := r75.mono s226.ex
    replace r97 := r97.mono s226.ex
    replace m156 := m156.step s226 nm0
    replace m168 := m168.step s226 nm0
    replace r211 := r211.mono s226.ex
    replace st := st.go s226 go0
    replace w := s226.ok
    replace r227 : Rep K B224 (.ref p223) (enc (⟨((x70.1.length : Int) + x217.1), 0⟩ : Qf)) := r227
    refine h_nil ?_
    refine h_newL w (ds := (([(⟨((x70.1.length : Int) + x217.1), 0⟩ : Qf)] : List Qf)).map enc) (K := K) (.cons r227 .nil) (fun p228 B229 H230 s231 r232 => ?_) (by show 1 ≤ sizeLine; decide)
    replace m9 := m9.step s231 nm0
    replace r75 := r75.mono s231.ex
    replace r97 := r97.mono s231.ex
    replace m156 := m156.step s231 nm0
    replace m168 := m168.step s231 nm0
    replace r211 := r211.mono s231.ex
    replace st := st.go s231 go0
    replace w := s231.ok
    replace r232 : Rep K B229 (.ref p228) (enc ([(⟨((x70.1.length : Int) + x217.1), 0⟩ : Qf)] : List Qf)) := r232
    replace P := P.lt
    generalize hx : (([(⟨((x70.1.length : Int) + x217.1), 0⟩ : Qf)] : List Qf) : (List Qf)) = x233 at P r232 ⊢
    obtain ⟨p234, xs235, hv, hs236, hr237⟩ := Rep.sq w r211
    cases hv
    obtain ⟨p238, xs239, hv, hs240, hr241⟩ := Rep.sq w r232
    cases hv
    obtain ⟨gd, P⟩ := P.guard
    refine h_cat hs236 hs240 (by have g := gd; simp only [hr237.length, hr241.length, List.length_map] at g ⊢; exact Nat.le_trans g (by decide)) ?_
    refine h_nwM w (ds := ((acc180 ++ x233)).map enc) (K := K) (RepL.cat hr237 hr241) (fun p242 H243 hn246 s244 m245 => ?_) 
    have n247 := st.nn hn246
    have ne248 := Mu.ne m9 hn246
    have ne249 := MuK.ne m156 hn246
    have ne250 := Mu.ne m168 hn246
    replace m9 := m9.step s244 nm0
    replace r75 := r75.mono s244.ex
    replace r97 := r97.mono s244.ex
    replace m156 := m156.step s244 nm0
    replace m168 := m168.step s244 nm0
    replace st := st.go s244 go0
    replace w := s244.ok
    try dsimp only
    refine h_nrm (σ' := [some (v_script), some ((.ref p7)), some (.int x40), some ((.ref p88)), some ((.ref p98)), some ((.ref p153)), none, some ((.ref p166)), some ((.ref p242)), none, none]) ?_
    refine h_seq (h_rng1 ?_)
    refine h_cons (h_c (h_nil ?_))
    have gz251 : (-(2 ^ 62) ≤ (4 : Int) ∧ (4 : Int) < 2 ^ 62) := by decide
    have wj253 := w
    have sj252 := Stp.refl (W := [p242, p166]) w
    refine h_forR1 P gz251 (fun (a : (List Qf) × (List Int)) σ' H' => ∃ (B' : Hp) (o__law_k : Option V), Stp [p242, p166] B229 H243 B' H' ∧ σ' = [some (v_script), some ((.ref p7)), some (.int x40), some ((.ref p88)), some ((.ref p98)), some ((.ref p153)), none, some ((.ref p166)), some ((.ref p242)), o__law_k, none] ∧ Mu K B' H' p242 (a.1.map enc) ∧ Mu K B' H' p166 (a.2.map enc)) ⟨_, _, sj252, rfl, m245, m168⟩ ?_ ?_
    ·rintro N254 T255 x260 a259 _ H264 ⟨B263, o266, s265, rfl, m245, m168⟩ hlox260 hhix260 kk256 kr257 kb258 P
     replace m9 := m9.step s265 (nm2 ne248 ne171)
     replace r75 := r75.mono s265.ex
     replace r97 := r97.mono s265.ex
     replace m156 := m156.step s265 (nm2 ne249 ne172)
     replace st := st.go s265 (go2 (.inr n247) (.inr n170))
     replace w := s265.ok
     have sj252 := s265
     refine h_gname ?_
     refine h_drop ?_
     refine h_bm ?_
     refine h_var rfl (h_bmL m245 ?_)
     refine h_cons (h_tup ?_)
     refine h_cons (h_call (h_cons (h_var rfl (h_cons (h_cb (h_cons (h_var rfl (h_nil ?_))))))))
     obtain ⟨p267, xs268, hv, hs269, hr270⟩ := Rep.sq w r75
     cases hv
     refine h_len hs269 hr270 ?_
     refine h_nil ?_
     refine ⟨B263, p166, a259.2, (x70.1.length : Int), w, rfl, m168, (P.bind).mono (fun x271 P => ?_) (fun _ z => z)⟩
     refine fun v275 B272 H273 s274 m168 r276 => ?_
     replace m9 := m9.step s274 (nm1 ne171)
     replace r75 := r75.mono s274.ex
     replace r97 := r97.mono s274.ex
     replace m156 := m156.step s274 (nm1 ne172)
     replace m245 := m245.step s274 (nm1 ne250.symm)
     replace st := st.go s274 (go1 (.inr n170))
     replace sj252 := sj252.go s274 (go1 (.inl (by simp)))
     replace w := s274.ok
     cases r276
     refine h_cons (h_call (h_cons (h_var rfl (h_cons (h_var rfl (h_nil ?_))))))
     refine ⟨B272, p166, x271.2, x40, w, rfl, m168, (P.bind).mono (fun x277 P => ?_) (fun _ z => z)⟩
     refine fun v281 B278 H279 s280 m168 r282 => ?_
     replace m9 := m9.step s280 (nm1 ne171)
     replace r75 := r75.mono s280.ex
     replace r97 := r97.mono s280.ex
     replace m156 := m156.step s280 (nm1 ne172)
     replace m245 := m245.step s280 (nm1 ne250.symm)
     replace st := st.go s280 (go1 (.inr n170))
     replace sj252 := sj252.go s280 (go1 (.inl (by simp)))
     replace w := s280.ok
     cases r282
     refine h_nil ?_
     refine h_newT w (K := K) (.cons (Rep.int _) (.cons (Rep.int _) .nil)) (fun p283 B284 H285 s286 r287 => ?_) (by show 2 ≤ sizeLine; decide)
     replace m9 := m9.step s286 nm0
     replace r75 := r75.mono s286.ex
     replace r97 := r97.mono s286.ex
     replace m156 := m156.step s286 nm0
     replace m168 := m168.step s286 nm0
     replace m245 := m245.step s286 nm0
     replace st := st.go s286 go0
     replace sj252 := sj252.go s286 go0
     replace w := s286.ok
     replace r287 : Rep K B284 (.ref p283) (enc (⟨x271.1, x277.1⟩ : Qf)) := r287
     refine h_nil ?_
     obtain ⟨gd, P⟩ := P.guard
     refine h_append (b := (⟨x271.1, x277.1⟩ : Qf)) w m245 r287 gd (fun H288 s289 m245 => ?_)
     replace m9 := m9.step s289 (nm1 ne248)
     replace r75 := r75.mono s289.ex
     replace r97 := r97.mono s289.ex
     replace m156 := m156.step s289 (nm1 ne249)
     replace m168 := m168.step s289 (nm1 ne250)
     replace st := st.go s289 (go1 (.inr n247))
     replace sj252 := sj252.go s289 (go1 (.inl (by simp)))
     replace w := s289.ok
     refine h_nx ?_
     exact kk256 ((a259.1 ++ [(⟨x271.1, x277.1⟩ : Qf)]), x277.2) _ _ ⟨_, _, sj252, rfl, m245, m168⟩ P.ok
    ·rintro a290 _ H292 ⟨B291, o294, s293, rfl, m245, m168⟩ P
     replace m9 := m9.step s293 (nm2 ne248 ne171)
     replace r75 := r75.mono s293.ex
     replace r97 := r97.mono s293.ex
     replace m156 := m156.step s293 (nm2 ne249 ne172)
     replace st := st.go s293 (go2 (.inr n247) (.inr n170))
     replace w := s293.ok
     refine h_nx ?_
     refine h_seq (h_forE ?_)
     refine h_op (h_var rfl (h_sl ?_))
     refine h_var rfl (h_nopart ?_)
     refine h_part ?_
     refine h_c (h_isI ?_)
     obtain ⟨xs296, hv, hs297, hr298⟩ := Mu.sq m245
     refine h_slQ hs297 ?_
     refine h_nwL w (ds := ((cutL a290.1 none (some 2))).map enc) (K := K) (hr298.cut none (some 2)) (fun p299 B300 H301 s302 r303 => ?_) 
     replace m9 := m9.step s302 nm0
     replace r75 := r75.mono s302.ex
     replace r97 := r97.mono s302.ex
     replace m156 := m156.step s302 nm0
     replace m168 := m168.step s302 nm0
     replace m245 := m245.step s302 nm0
     replace st := st.go s302 go0
     replace w := s302.ok
     replace r303 : Rep K B300 (.ref p299) (enc (cutL a290.1 none (some 2))) := r303
     replace P := P.lt
     generalize hx : ((cutL a290.1 none (some 2)) : (List Qf)) = x304 at P r303 ⊢
     obtain ⟨xs306, hv, hs307, hr308⟩ := Mu.sq m245
     obtain ⟨p309, xs310, hv, hs311, hr312⟩ := Rep.sq w r303
     cases hv
     obtain ⟨gd, P⟩ := P.guard
     refine h_cat hs307 hs311 (by have g := gd; simp only [hr308.length, hr312.length, List.length_map] at g ⊢; exact Nat.le_trans g (by decide)) ?_
     refine h_nwL w (ds := ((a290.1 ++ x304)).map enc) (K := K) (RepL.cat hr308 hr312) (fun p313 B314 H315 s316 r317 => ?_) 
     replace m9 := m9.step s316 nm0
     replace r75 := r75.mono s316.ex
     replace r97 := r97.mono s316.ex
     replace m156 := m156.step s316 nm0
     replace m168 := m168.step s316 nm0
     replace m245 := m245.step s316 nm0
     replace st := st.go s316 go0
     replace w := s316.ok
     replace r317 : Rep K B314 (.ref p313) (enc (a290.1 ++ x304)) := r317
     obtain ⟨p318, xs319, hv, hb320, hr321⟩ := Rep.sqB r317
     cases hv
     have wj323 := w
     have sj322 := Stp.refl (W := []) w
     refine h_forL P (w.l hb320) hr321 (fun (a : Unit) σ' H' => ∃ (B' : Hp) (o__law_number : Option V) (o__law_cell : Option V), Stp [] B314 H315 B' H' ∧ σ' = [some (v_script), some ((.ref p7)), some (.int x40), some ((.ref p88)), some ((.ref p98)), some ((.ref p153)), o__law_number, some ((.ref p166)), some ((.ref p242)), o294, o__law_cell]) ⟨_, _, _, sj322, rfl⟩ (fun _ _ _ j => ?_) ?_ ?_
     ·obtain ⟨B333, o336, o337, s335, rfl⟩ := j
      exact s335.ok.l (s335.ex.l hb320)
     ·rintro N324 T325 x330 v331 a329 _ H334 ⟨B333, o336, o337, s335, rfl⟩ r332 kk326 kr327 kb328 P
      replace m9 := m9.step s335 nm0
      replace r75 := r75.mono s335.ex
      replace r97 := r97.mono s335.ex
      replace m156 := m156.step s335 nm0
      replace m168 := m168.step s335 nm0
      replace m245 := m245.step s335 nm0
      replace st := st.go s335 go0
      replace w := s335.ok
      have sj322 := s335
      replace r332 := r332.mono sj322.ex
      obtain ⟨p338, xs339, rfl, hs340, hr341⟩ := Rep.st w r332
      obtain ⟨u342, u344, rfl, r343, r345⟩ := RepL.open2 hr341
      refine h_tupG hs340 rfl ?_
      refine h_gcons ?_
      refine h_gname ?_
      cases r343
      refine h_gcons ?_
      refine h_gname ?_
      cases r345
      refine h_gnil ?_
      refine h_if ?_
      refine h_tnot ?_
      refine h_tB ?_
      refine h_call (h_cons (h_var rfl (h_cons (h_var rfl (h_cons (h_var rfl (h_cons (h_var rfl (h_cons (h_var rfl (h_nil ?_)))))))))))
      refine ⟨B333, (.ref p88), x70.1, p153, (mergeA [] (prsA acc108) : (List (Int × K_Leaf))), (.ref p98), x92.1, x330.a, x330.b, w, rfl, (Rep.bor0 w r75), m156, r97, (P.bind).mono (fun x346 P => ?_) (fun _ z => z)⟩
      refine fun v350 B347 H348 s349 r351 => ?_
      replace m9 := m9.step s349 nm0
      replace r75 := r75.mono s349.ex
      replace r97 := r97.mono s349.ex
      replace m156 := m156.step s349 nm0
      replace m168 := m168.step s349 nm0
      replace m245 := m245.step s349 nm0
      replace st := st.go s349 go0
      replace sj322 := sj322.go s349 go0
      replace w := s349.ok
      cases r351
      refine h_bl ?_
      refine h_iteN (fun c1 => ?_) (fun c1 => ?_)
      ·replace P := P.iteF c1
       refine h_ret (h_c ?_)
       exact (kr327 _ P.ok) _ _ _ st (Rep.bl _)
      ·replace P := P.iteT c1
       refine h_next ?_
       refine h_nx ?_
       exact kk326 () _ _ ⟨_, _, _, sj322, rfl⟩ P.ok
     ·rintro a352 _ H354 ⟨B353, o356, o357, s355, rfl⟩ P
      replace m9 := m9.step s355 nm0
      replace r75 := r75.mono s355.ex
      replace r97 := r97.mono s355.ex
      replace m156 := m156.step s355 nm0
      replace m168 := m168.step s355 nm0
      replace m245 := m245.step s355 nm0
      replace st := st.go s355 go0
      replace w := s355.ok
      refine h_nx ?_
      refine h_seq <| h_if ?_
      have wj359 := w
      have sj358 := Stp.refl (W := []) w
      refine h_condJ P (fun H' => ∃ B', Stp [] B353 H354 B' H') (fun N kk360 P => ?_) ?_
      ·skip
       refine h_tand ?_
       refine h_test ?_
       refine h_op (h_call (h_cons (h_call (h_cons (h_var rfl (h_cons (h_c (h_nil ?_))))))))
       refine ⟨B353, v_script, a_script, 5, w, rfl, ((r_script.step st).w sub0), (P.bind).mono (fun x361 P => ?_) (fun _ z => z)⟩
       refine fun p367 B362 H363 s364 hn368 m369 => ?_
       have n371 := st.nn hn368
       have n372 := sj358.nn hn368
       have ne373 := Mu.ne m9 hn368
       have ne374 := MuK.ne m156 hn368
       have ne375 := Mu.ne m168 hn368
       have ne376 := Mu.ne m245 hn368
       replace m9 := m9.step s364 nm0
       replace r75 := r75.mono s364.ex
       replace r97 := r97.mono s364.ex
       replace m156 := m156.step s364 nm0
       replace m168 := m168.step s364 nm0
       replace m245 := m245.step s364 nm0
       replace st := st.go s364 go0
       replace sj358 := sj358.go s364 go0
       replace w := s364.ok
       refine h_cons (h_c (h_nil ?_))
       refine ⟨B362, p367, x361, 8, w, rfl, m369, (P.bind).mono (fun x377 P => ?_) (fun _ z => z)⟩
       refine fun v381 B378 H379 s380 m369 r382 => ?_
       replace m9 := m9.step s380 (nm1 ne373)
       replace r75 := r75.mono s380.ex
       replace r97 := r97.mono s380.ex
       replace m156 := m156.step s380 (nm1 ne374)
       replace m168 := m168.step s380 (nm1 ne375)
       replace m245 := m245.step s380 (nm1 ne376)
       replace st := st.go s380 (go1 (.inr n371))
       replace sj358 := sj358.go s380 (go1 (.inr n372))
       replace w := s380.ok
       cases r382
       refine h_c (h_eqI ?_)
       refine h_bl ?_
       refine h_ite (fun c1 => ?_) (fun c1 => ?_)
       ·replace P := P.iteT c1
        refine h_tnot ?_
        refine h_tB ?_
        refine h_call (h_cons (h_call (h_cons (h_var rfl (h_cons (h_c (h_nil ?_)))))))
        refine ⟨B378, v_script, a_script, 6, w, rfl, ((r_script.step st).w sub0), (P.bind).mono (fun x383 P => ?_) (fun _ z => z)⟩
        refine fun p389 B384 H385 s386 hn390 m391 => ?_
        have n393 := st.nn hn390
        have n394 := sj358.nn hn390
        have ne395 := Mu.ne m9 hn390
        have ne396 := MuK.ne m156 hn390
        have ne397 := Mu.ne m168 hn390
        have ne398 := Mu.ne m245 hn390
        replace m9 := m9.step s386 nm0
        replace r75 := r75.mono s386.ex
        replace r97 := r97.mono s386.ex
        replace m156 := m156.step s386 nm0
        replace m168 := m168.step s386 nm0
        replace m245 := m245.step s386 nm0
        replace st := st.go s386 go0
        replace sj358 := sj358.go s386 go0
        replace w := s386.ok
        refine h_nil ?_
        refine ⟨B384, p389, x383, w, rfl, m391, (P.bind).mono (fun x399 P => ?_) (fun _ z => z)⟩
        refine fun v403 B400 H401 s402 m391 r404 => ?_
        replace m9 := m9.step s402 (nm1 ne395)
        replace r75 := r75.mono s402.ex
        replace r97 := r97.mono s402.ex
        replace m156 := m156.step s402 (nm1 ne396)
        replace m168 := m168.step s402 (nm1 ne397)
        replace m245 := m245.step s402 (nm1 ne398)
        replace st := st.go s402 (go1 (.inr n393))
        replace sj358 := sj358.go s402 (go1 (.inr n394))
        replace w := s402.ok
        cases r404
        refine h_bl ?_
        exact kk360 _ _ ⟨_, sj358⟩ P.ok
       ·replace P := P.iteF c1
        exact kk360 _ _ ⟨_, sj358⟩ P.ok
      rintro b405 H407 ⟨B406, s408⟩ P
      replace m9 := m9.step s408 nm0
      replace r75 := r75.mono s408.ex
      replace r97 := r97.mono s408.ex
      replace m156 := m156.step s408 nm0
      replace m168 := m168.step s408 nm0
      replace m245 := m245.step s408 nm0
      replace st := st.go s408 go0
      replace w := s408.ok
      refine h_ite (fun c1 => ?_) (fun c1 => ?_)
      ·replace P := P.iteT c1
       refine h_ret (h_c ?_)
       exact P.ok _ _ _ st (Rep.bl _)
      ·replace P := P.iteF c1
       refine h_next ?_
       refine h_nx ?_
       refine h_ret (h_op (h_cb (h_cons (h_cb (h_cons (h_var rfl (h_nil ?_)))))))
       refine h_listDK (K := K) w m156 (fun p409 H410 hn413 s411 m412 => ?_)
       have n414 := st.nn hn413
       have ne415 := Mu.ne m9 hn413
       have ne416 := MuK.ne m156 hn413
       have ne417 := Mu.ne m168 hn413
       have ne418 := Mu.ne m245 hn413
       replace m9 := m9.step s411 nm0
       replace r75 := r75.mono s411.ex
       replace r97 := r97.mono s411.ex
       replace m156 := m156.step s411 nm0
       replace m168 := m168.step s411 nm0
       replace m245 := m245.step s411 nm0
       replace st := st.go s411 go0
       replace w := s411.ok
       replace m412 : Mu K B406 H410 p409 ((((mergeA [] (prsA acc108) : (List (Int × K_Leaf))).map (·.1)) : (List Int)).map enc) := m412
       replace P := P.lt
       generalize hx : (((mergeA [] (prsA acc108) : (List (Int × K_Leaf))).map (·.1)) : (List Int)) = x419 at P m412 ⊢
       refine h_nil ?_
       obtain ⟨xs421, hv, hs422, hr423⟩ := Mu.sq m412
       refine h_sortI (K := K) w hs422 hr423 (fun p424 H425 hn428 s426 m427 => ?_)
       have n429 := st.nn hn428
       have ne430 := Mu.ne m9 hn428
       have ne431 := MuK.ne m156 hn428
       have ne432 := Mu.ne m168 hn428
       have ne433 := Mu.ne m245 hn428
       have ne434 := Mu.ne m412 hn428
       replace m9 := m9.step s426 nm0
       replace r75 := r75.mono s426.ex
       replace r97 := r97.mono s426.ex
       replace m156 := m156.step s426 nm0
       replace m168 := m168.step s426 nm0
       replace m245 := m245.step s426 nm0
       replace m412 := m412.step s426 nm0
       replace st := st.go s426 go0
       replace w := s426.ok
       replace m427 : Mu K B406 H425 p424 (((sortI x419) : (List Int)).map enc) := m427
       obtain ⟨B439, e435, k436, g437, r438⟩ := Mu.keep m427
       replace st := g437 _ _ _ st w0 n429
       replace m9 := m9.kp e435 k436 ne430
       replace r75 := r75.mono e435
       replace r97 := r97.mono e435
       replace m156 := m156.kp e435 k436 ne431
       replace m168 := m168.kp e435 k436 ne432
       replace m245 := m245.kp e435 k436 ne433
       replace w := st.ok
       replace r438 : Rep K B439 (.ref p424) (enc (sortI x419)) := r438
       refine h_var rfl ?_
       obtain ⟨gd, P⟩ := P.guard
       refine h_eqD (d := (enc (sortI x419))) (e := (enc x92.1)) w r438 r97 gd ?_
       exact P.ok _ _ _ st (Rep.bl _)
end
end A
set_option maxHeartbeats 2000000
namespace Y
open PySem PySem.Spec PyProof.Rows L2
open Enc (enc)
def Ok {α : Type} (m : Res α) (φ : α → Prop) : Prop := ∃ a, m = .ok a ∧ φ a
section
variable {α β : Type} {m : Res α} {φ φ' : α → Prop} {k : α → Res β} {ψ : β → Prop} {a : α} {c : Bool} {i : Int} {l : List α}
theorem Ok.pure (h : φ a) : Ok (.ok a) φ := ⟨a, rfl, h⟩
theorem Ok.bind (h : Ok m φ) (hk : ∀ a, φ a → Ok (k a) ψ) : Ok (m.bind k) ψ := by
  obtain ⟨a, e, p⟩ := h
  rw [e]
  exact hk a p
theorem Ok.bindE (e : m = .ok a) (h : Ok (k a) ψ) : Ok (m.bind k) ψ := by rw [e]; exact h
theorem Ok.mono (h : Ok m φ) (hk : ∀ a, φ a → φ' a) : Ok m φ' := by
  obtain ⟨a, e, p⟩ := h
  exact ⟨a, e, hk a p⟩
theorem Ok.ite {m m' : Res α} (h1 : c = true → Ok m φ) (h2 : c = false → Ok m' φ) : Ok (if c = true then m else m') φ := by
  cases c
  · rw [if_neg Bool.false_ne_true]; exact h2 rfl
  · rw [if_pos rfl]; exact h1 rfl
theorem Ok.iteT {m m' : Res α} (hc : c = true) (h : Ok m φ) : Ok (if c = true then m else m') φ := by
  rw [if_pos hc]; exact h
theorem Ok.iteF {m m' : Res α} (hc : c = false) (h : Ok m' φ) : Ok (if c = true then m else m') φ := by
  rw [hc, if_neg Bool.false_ne_true]; exact h
theorem Ok.guard {p : Prop} [Decidable p] (hp : p) (h : Ok m φ) : Ok (guardR p m) φ := by
  unfold guardR; rw [if_pos hp]; exact h
theorem Ok.lt {d : α} (h : Ok (k d) ψ) : Ok (Y.lt d k) ψ := h
theorem Ok.noErr (h : Ok m φ) : Ok m.noErr φ := by
  obtain ⟨a, e, p⟩ := h
  exact ⟨a, by rw [e]; rfl, p⟩
theorem atI_in (h0 : 0 ≤ i) (h1 : i < (l.length : Int)) : ∃ x, atI l i = some x ∧ l[i.toNat]? = some x ∧ x ∈ l := by
  have h2 : i.toNat < l.length := by omega
  have e : ixN l.length i = some i.toNat := by unfold ixN; rw [if_pos h0, if_pos h1]
  refine ⟨l[i.toNat], ?_, List.getElem?_eq_getElem h2, List.getElem_mem h2⟩
  unfold atI
  rw [e]
  exact List.getElem?_eq_getElem h2
theorem Ok.ix (h0 : 0 ≤ i) (h1 : i < (l.length : Int)) (h : ∀ x, x ∈ l → l[i.toNat]? = some x → Ok (k x) ψ) : Ok ((ixR l i).bind k) ψ := by
  obtain ⟨x, e, e2, m⟩ := atI_in h0 h1
  unfold ixR
  rw [e]
  exact h x m e2
theorem Ok.ixm (h0 : 0 ≤ i) (h1 : i < (l.length : Int)) (h : ∀ x, x ∈ l → Ok (k x) ψ) : Ok ((ixR l i).bind k) ψ := Ok.ix h0 h1 fun x m _ => h x m
theorem Ok.compL {S R : Type} {f : α → S → Res (Option R × S)} (I : S → Prop) (G : R → Prop) (hf : ∀ x s, x ∈ l → I s → Ok (f x s) fun r => I r.2 ∧ ∀ b, r.1 = some b → G b) : ∀ {s : S}, I s → Ok (compL l s f) fun r => I r.2 ∧ ∀ b ∈ r.1, G b := by
  induction l with
  | nil => intro s h; exact ⟨_, rfl, h, fun _ m => nomatch m⟩
  | cons x xs ih =>
    intro s h
    refine Ok.bind (hf x s List.mem_cons_self h) ?_
    rintro ⟨o, s'⟩ ⟨h', g⟩
    refine Ok.bind (ih (fun y s m h => hf y s (List.mem_cons_of_mem _ m) h) h') ?_
    rintro ⟨bs, s2⟩ ⟨h2, g2⟩
    refine ⟨_, rfl, h2, fun b m => ?_⟩
    cases o with
    | none => exact g2 b m
    | some b0 =>
      rcases List.mem_cons.mp m with e | m
      · rw [e]; exact g b0 rfl
      · exact g2 b m
end
theorem mulW {i j : Int} {a b : Nat} (ha : i.natAbs < 2 ^ a) (hb : j.natAbs < 2 ^ b) (h0 : 0 < a := by decide) (h1 : 0 < b := by decide) (h : a + b ≤ 1000000 := by decide) : CMulW i j := wide_mul ha hb h0 h1 h
theorem divW {i j : Int} {b : Nat} (h : 0 < j) (hb : j.natAbs < 2 ^ b) (h0 : 0 < b := by decide) (h9 : b ≤ 9000 := by decide) : CDivW i j := wide_div h hb h0 h9
theorem cutL_mem {α : Type} {l : List α} {lo hi : Option Int} {x : α} (h : x ∈ cutL l lo hi) : x ∈ l := List.mem_of_mem_drop (List.mem_of_mem_take h)
mutual
theorem eqv_refl : ∀ d : D, flatD d = true → PyData.eqv (pyD d) (pyD d) = true
  | .non, _ => rfl
  | .bl b, _ => by show (b == b) = true; simp
  | .int i, _ => by show (i == i) = true; simp
  | .str x, _ => by show (x == x) = true; simp
  | .lst ds, h => eqvs_refl ds h
  | .tup ds, h => eqvs_refl ds h
  | .dic _, h => nomatch h
  | .obj _ _, h => nomatch h
  | .pr a b, _ => by show ((a == a) && ((b == b) && true)) = true; simp
  | .dit _, h => nomatch h
theorem eqvs_refl : ∀ ds : List D, flatDs ds = true → PyData.eqvAll (pyDs ds) (pyDs ds) = true
  | [], _ => rfl
  | d :: ds, h => by
    have h' : (flatD d && flatDs ds) = true := h
    rw [Bool.and_eq_true] at h'
    show (PyData.eqv (pyD d) (pyD d) && PyData.eqvAll (pyDs ds) (pyDs ds)) = true
    rw [eqv_refl d h'.1, eqvs_refl ds h'.2]
    rfl
end
theorem eqD_refl {d : D} (h : flatD d = true) : eqD d d = true := eqv_refl d h
mutual
def eqOk (n : Nat) : D → Bool
  | .lst ds => match n with | 0 => false | n + 1 => eqOks n ds
  | .tup ds => match n with | 0 => false | n + 1 => eqOks n ds
  | .dic _ => false
  | .obj _ _ => false
  | .dit _ => false
  | .pr _ _ => match n with | 0 => false | _ + 1 => true
  | .str x => PyData.strOk x
  | _ => true
def eqOks (n : Nat) : List D → Bool
  | [] => true
  | d :: ds => eqOk n d && eqOks n ds
end
mutual
theorem eqOk_flat : ∀ (d : D) (n : Nat), eqOk n d = true → flatD d = true ∧ (pyD d).canLay0 = true ∧ (pyD d).depth ≤ n
  | .non, _, _ => ⟨rfl, rfl, Nat.zero_le _⟩
  | .bl _, _, _ => ⟨rfl, rfl, Nat.zero_le _⟩
  | .int _, _, _ => ⟨rfl, rfl, Nat.zero_le _⟩
  | .str _, _, h => ⟨rfl, h, Nat.zero_le _⟩
  | .lst ds, n + 1, h => let ⟨a, b, c⟩ := eqOks_flat ds n h; ⟨a, b, Nat.succ_le_succ c⟩
  | .tup ds, n + 1, h => let ⟨a, b, c⟩ := eqOks_flat ds n h; ⟨a, b, Nat.succ_le_succ c⟩
  | .lst _, 0, h => nomatch h
  | .tup _, 0, h => nomatch h
  | .dic _, _, h => nomatch h
  | .obj _ _, _, h => nomatch h
  | .dit _, _, h => nomatch h
  | .pr _ _, 0, h => nomatch h
  | .pr _ _, n + 1, _ => ⟨rfl, rfl, Nat.succ_le_succ (Nat.zero_le _)⟩
theorem eqOks_flat : ∀ (ds : List D) (n : Nat), eqOks n ds = true → flatDs ds = true ∧ PyData.canLayAll0 (pyDs ds) = true ∧ PyData.depthAll (pyDs ds) ≤ n
  | [], _, _ => ⟨rfl, rfl, Nat.zero_le _⟩
  | d :: ds, n, h => by
    have h' : (eqOk n d && eqOks n ds) = true := h
    rw [Bool.and_eq_true] at h'
    obtain ⟨a, b, c⟩ := eqOk_flat d n h'.1
    obtain ⟨a', b', c'⟩ := eqOks_flat ds n h'.2
    refine ⟨?_, ?_, ?_⟩
    · show (flatD d && flatDs ds) = true; rw [a, a']; rfl
    · show (PyData.canLay0 (pyD d) && PyData.canLayAll0 (pyDs ds)) = true; rw [b, b']; rfl
    · exact Nat.max_le.mpr ⟨c, c'⟩
end
theorem okEq_of {d e : D} (h : eqOk 20 d = true) (h' : eqOk 20 e = true) : okEq d e := by
  obtain ⟨a, b, c⟩ := eqOk_flat d 20 h
  obtain ⟨a', b', c'⟩ := eqOk_flat e 20 h'
  refine ⟨a, a', ?_, ?_⟩
  · unfold SeqAt.shaped; rw [b, decide_eq_true (Nat.le_trans c (by decide))]; rfl
  · unfold SeqAt.shaped; rw [b', decide_eq_true (Nat.le_trans c' (by decide))]; rfl
theorem eqOk_ints : ∀ (l : List Int) (n : Nat), eqOks n (l.map enc) = true
  | [], _ => rfl
  | i :: l, n => by show (eqOk n (.int i) && eqOks n (l.map enc)) = true; rw [eqOk_ints l n]; rfl
theorem compL_map {α β : Type} {f : α → Unit → Res (Option β × Unit)} {g : α → β} : ∀ {l : List α}, (∀ x ∈ l, f x () = .ok (some (g x), ())) → compL l () f = .ok (l.map g, ())
  | [], _ => rfl
  | x :: xs, h => by
    unfold compL
    rw [h x List.mem_cons_self]
    show ((compL xs () f).bind fun q => .ok (g x :: q.1, q.2)) = _
    rw [compL_map fun y m => h y (List.mem_cons_of_mem _ m)]
    rfl
theorem compR_map {α β : Type} {f : α → Unit → Res (Option β × Unit)} {g : α → β} {l : List α} (hl : l.length ≤ 1000000) (h : ∀ x ∈ l, f x () = .ok (some (g x), ())) : compR l () f = .ok (l.map g, ()) := by
  unfold compR guardR
  rw [if_pos hl, compL_map h]
end Y

namespace A
open PySem PySem.Spec PyProof.Rows L2 Y
open Y.Enc (enc)
theorem Ok.setW {α β : Type} {l : List α} {i : Int} {x : α} {k : List α → Res β} {ψ : β → Prop} (h0 : 0 ≤ i) (h1 : i < (l.length : Int)) (h : ∀ l', l'.length = l.length → Ok (k l') ψ) : Ok ((setR l i x).bind k) ψ := by
  have e : setR l i x = .ok (l.set i.toNat x) := by
    unfold setR
    have e : ixN l.length i = some i.toNat := by unfold ixN; rw [if_pos h0, if_pos h1]
    rw [e]
  rw [e]
  exact h _ (List.length_set ..)
theorem draw_ok {st : List Int} {b : Int} (hl : st.length = 3) (hb : 0 < b) (hb2 : b.natAbs < 2 ^ 4000) : Ok (l_draw st b) fun r => (0 ≤ r.1 ∧ r.1 < b) ∧ r.2.length = 3 := by
  unfold l_draw
  refine Ok.ix (by decide) (by omega) fun x _ _ => Ok.ite (fun c => ?_) (fun c => ?_)
  · refine Ok.ix (by decide) (by omega) fun y _ _ => Ok.guard hb (Ok.lt (Ok.ix (by decide) (by omega) fun z _ _ => Ok.guard (divW hb hb2) (Ok.setW (by decide) (by omega) fun l' e => Ok.pure ⟨⟨Int.emod_nonneg _ (Int.ne_of_gt hb), Int.emod_lt_of_pos _ hb⟩, e.trans hl⟩)))
  · refine Ok.ix (by decide) (by omega) fun y _ _ => Ok.setW (by decide) (by omega) fun l' e => Ok.ix (by decide) (by omega) fun z _ _ => Ok.ix (by decide) (by omega) fun u _ _ => Ok.lt ?_
    generalize hn : (((z + 7919 * u) + 1) * 48271) % 2147483647 = n
    have hn1 : 0 ≤ n ∧ n < 2147483647 := by subst hn; exact ⟨Int.emod_nonneg _ (by decide), Int.emod_lt_of_pos _ (by decide)⟩
    refine Ok.guard (mulW (a := 32) (b := 32) (by omega) (by omega)) (Ok.lt ?_)
    generalize hm : (n * (n / 1009 + 69621)) % 2147483647 = m
    have hm1 : 0 ≤ m ∧ m < 2147483647 := by subst hm; exact ⟨Int.emod_nonneg _ (by decide), Int.emod_lt_of_pos _ (by decide)⟩
    refine Ok.guard (mulW (a := 32) (b := 32) (by omega) (by omega)) (Ok.guard hb (Ok.pure ⟨⟨Int.emod_nonneg _ (Int.ne_of_gt hb), Int.emod_lt_of_pos _ hb⟩, e.trans hl⟩))
theorem dw {β : Type} {st : List Int} {b : Int} {k : Int × List Int → Res β} {ψ : β → Prop} (h : st.length = 3) (hb : 0 < b) (hb2 : b.natAbs < 18446744073709551616) (hk : ∀ x s, 0 ≤ x → x < b → s.length = 3 → Ok (k (x, s)) ψ) : Ok ((l_draw st b).bind k) ψ :=
  Ok.bind (draw_ok h hb (Nat.lt_of_lt_of_le (show b.natAbs < 2 ^ 64 from hb2) (Nat.pow_le_pow_right (by decide) (by decide)))) fun r p => hk r.1 r.2 p.1.1 p.1.2 p.2
theorem well_ok {ns : List Int} {k : Int} (h0 : 0 ≤ k) : Ok (l_well ns k) fun r => r.length = 3 := by
  unfold l_well
  refine Ok.bind (φ := fun _ => True) ?_ fun x _ => Ok.pure rfl
  unfold l_cell_at
  refine Ok.ite (fun c => Ok.ix h0 (of_decide_eq_true c) fun x _ _ => Ok.pure trivial) fun c => Ok.guard (okEq_of (eqOk_ints ns 19) rfl) (Ok.ite (fun _ => Ok.pure trivial) fun e => ?_)
  have hn : 0 < (ns.length : Int) := by
    cases ns with
    | nil => exact nomatch e
    | cons x l => show (0 : Int) < ((l.length + 1 : Nat) : Int); omega
  exact Ok.guard hn (Ok.ix (Int.emod_nonneg _ (Int.ne_of_gt hn)) (Int.emod_lt_of_pos _ hn) fun x _ _ => Ok.pure trivial)
theorem dvd_of_cop {q p r : Int} (h : q ∣ p * r) (hg : Int.gcd p q = 1) : q ∣ r := by
  have h1 : q.natAbs ∣ p.natAbs * r.natAbs := by rw [← Int.natAbs_mul]; exact Int.natAbs_dvd_natAbs.mpr h
  have h2 : Nat.Coprime q.natAbs p.natAbs := (Nat.gcd_comm ..).trans hg
  exact Int.natAbs_dvd_natAbs.mp (Nat.Coprime.dvd_of_dvd_mul_left h2 h1)
theorem uniq {p q p' q' : Int} (h : p * q' = p' * q) (hg : Int.gcd p q = 1) (hg' : Int.gcd p' q' = 1) (hq : 0 < q) (hq' : 0 < q') : p = p' ∧ q = q' := by
  have d1 : q ∣ q' := dvd_of_cop ⟨p', by rw [h, Int.mul_comm]⟩ hg
  have d2 : q' ∣ q := dvd_of_cop ⟨p, by rw [← h, Int.mul_comm]⟩ hg'
  have e : q = q' := Int.dvd_antisymm (by omega) (by omega) d1 d2
  subst e
  exact ⟨Int.eq_of_mul_eq_mul_right (by omega) h, rfl⟩
end A

namespace A
structure Er where
  s : Rat
  b : Option Rat
  r : Rat
structure GoodE (e : Er) : Prop where
  s : 0 < e.s
  r : 0 ≤ e.r
  b : ∀ x, e.b = some x → 0 ≤ x
  n : e.b = none → e.r = 0
end A

namespace A
open PySem PySem.Spec PyProof.Rows L2 Y
open Y.Enc (enc)
abbrev Fr := Tp2 Int Int
abbrev Ed := Tp3 Fr (Option Fr) Fr
def F (q : Rat) : Fr := ⟨q.num, (q.den : Int)⟩
def G (e : Er) : Ed := ⟨F e.s, e.b.map F, F e.r⟩
def Sz (q : Rat) : Prop := q.num.natAbs < 2 ^ 4400 ∧ q.den < 2 ^ 4400
def Dv (D N : Nat) (q : Rat) : Prop := ∃ k : Int, q * (D : Rat) = (k : Rat) ∧ k.natAbs ≤ N * D
section
variable {D E N M : Nat} {p q : Rat}
theorem Dv.add (h : Dv D N p) (h' : Dv D M q) : Dv D (N + M) (p + q) := by
  obtain ⟨k, e, b⟩ := h
  obtain ⟨k', e', b'⟩ := h'
  refine ⟨k + k', ?_, ?_⟩
  · rw [Rat.intCast_add]; grind
  · rw [Nat.add_mul]; omega
theorem Dv.sub (h : Dv D N p) (h' : Dv D M q) : Dv D (N + M) (p - q) := by
  obtain ⟨k, e, b⟩ := h
  obtain ⟨k', e', b'⟩ := h'
  refine ⟨k - k', ?_, ?_⟩
  · rw [Rat.intCast_sub]; grind
  · rw [Nat.add_mul]; omega
theorem Dv.up (h : Dv D N p) (hn : N ≤ M) : Dv D M p := by
  obtain ⟨k, e, b⟩ := h
  exact ⟨k, e, Nat.le_trans b (Nat.mul_le_mul_right _ hn)⟩
theorem Dv.den (h : Dv D N p) (hd : D ∣ E) : Dv E N p := by
  obtain ⟨k, e, b⟩ := h
  obtain ⟨c, rfl⟩ := hd
  refine ⟨k * (c : Int), ?_, ?_⟩
  · rw [Rat.intCast_mul, Rat.natCast_mul, Rat.intCast_natCast]; grind
  · rw [Int.natAbs_mul, Int.natAbs_natCast, ← Nat.mul_assoc]
    exact Nat.mul_le_mul_right _ b
theorem Dv.to (h : Dv D N p) (hd : D ∣ E) (hn : N ≤ M) : Dv E M p := (h.den hd).up hn
theorem Dv.of {a b : Int} (hb : 0 < b) (hd : b.toNat ∣ D) (h : a.natAbs ≤ N * b.toNat) : Dv D N (Rat.divInt a b) := by
  obtain ⟨c, rfl⟩ := hd
  have eb : ((b.toNat : Nat) : Int) = b := by omega
  refine ⟨a * (c : Int), ?_, ?_⟩
  · rw [Rat.intCast_mul, Rat.natCast_mul, Rat.intCast_natCast, ← Rat.intCast_natCast b.toNat, eb, Rat.divInt_eq_div]
    have hb' : (b : Rat) ≠ 0 := fun z => by have := Rat.intCast_eq_zero_iff.mp z; omega
    have := Rat.div_mul_cancel (a := (a : Rat)) hb'
    grind
  · rw [Int.natAbs_mul, Int.natAbs_natCast, ← Nat.mul_assoc]
    exact Nat.mul_le_mul_right _ h
theorem Dv.int {a : Int} (h : a.natAbs ≤ N) : Dv D N (a : Rat) := ⟨a * (D : Int), by rw [Rat.intCast_mul, Rat.intCast_natCast], by rw [Int.natAbs_mul, Int.natAbs_natCast]; exact Nat.mul_le_mul_right _ h⟩
end
section
variable {D N : Nat} {p q : Rat}
end
theorem m2 {x y : Int} {m n : Nat} (h : x.natAbs < 2 ^ m) (h' : y.natAbs < 2 ^ n) : (x * y).natAbs < 2 ^ (m + n) := L2.wide_lt h h'
theorem up {x : Int} {m n : Nat} (h : x.natAbs < 2 ^ m) (hm : m ≤ n) : x.natAbs < 2 ^ n := Nat.lt_of_lt_of_le h (Nat.pow_le_pow_right (by decide) hm)
section
variable {p q : Rat}
theorem Sz.a (h : Sz p) : (F p).a.natAbs < 2 ^ 4400 := h.1
theorem Sz.b (h : Sz p) : (F p).b.natAbs < 2 ^ 4400 := by show ((p.den : Int)).natAbs < 2 ^ 4400; rw [Int.natAbs_natCast]; exact h.2
end
theorem F1 : (⟨1, 1⟩ : Fr) = F 1 := rfl
structure Ge (D N : Nat) (e : Er) : Prop where
  g : GoodE e
  s : Dv D N e.s
  r : Dv D N e.r
  b : ∀ x, e.b = some x → Dv D N x
theorem Ge.to {D E N M : Nat} {e : Er} (h : Ge D N e) (hd : D ∣ E) (hn : N ≤ M) : Ge E M e := ⟨h.g, h.s.to hd hn, h.r.to hd hn, fun x q => (h.b x q).to hd hn⟩
def isStr (d : D) (s : Str) : Bool := match d with | .str t => decide (t = s) | _ => false
theorem eqStr (d : D) (s : Str) : eqD d (enc s) = isStr d s := by
  cases d <;> rfl
theorem stepEq {α : Type} {d : D} {s : Str} {X Y : Res α} (h : eqOk 20 d = true) (hs : PyData.strOk s = true) : (guardR (okEq d (enc s)) (if (eqD d (enc s)) = true then X else Y)) = if isStr d s = true then X else Y := by
  unfold guardR
  rw [if_pos (okEq_of h (show eqOk 20 (enc s) = true from hs)), eqStr]
theorem sp1 : PyData.strOk "plain" = true := by decide +kernel
theorem sp2 : PyData.strOk "moved" = true := by decide +kernel
theorem sp3 : PyData.strOk "mixed" = true := by decide +kernel
def toI (d : D) : Int := match d with | .int i => i | _ => 0
theorem whole_int {d : D} {lo hi : Int} (h : isWhole d lo hi = true) : d = .int (toI d) := by
  cases d with
  | int i => rfl
  | _ => exact nomatch h
def refE (o : Option K_Rule) : Res K_Rule := match o with | some r => .ok r | none => .err ⟨"NoRule", []⟩
theorem need_m (a b : D) : m_is_need a b = .ok (isWhole a 1 200 && isWhole b 0 15) := by
  unfold m_is_need
  show Res.bind (Res.ok (isWhole a 1 200)) _ = _
  cases isWhole a 1 200 <;> rfl
theorem str_apart {d : D} {s t : Str} (h : isStr d s = true) (hn : s ≠ t) : isStr d t = false := by
  cases d with
  | str x =>
    have e : x = s := of_decide_eq_true h
    exact decide_eq_false fun q => hn (e.symm.trans q)
  | _ => rfl
theorem pm : ("plain" : Str) ≠ "moved" := by decide +kernel
theorem px : ("plain" : Str) ≠ "mixed" := by decide +kernel
theorem mx : ("moved" : Str) ≠ "mixed" := by decide +kernel
section
variable {α β : Type} {m m' x : Res α}
theorem Is.bind {m : Res β} {k : β → Res α} {a : β} (e : m = .ok a) (h : k a = x) : m.bind k = x := by rw [e]; exact h
theorem Is.iteT {c : Bool} (hc : c = true) (h : m = x) : (if c = true then m else m') = x := by rw [if_pos hc]; exact h
theorem Is.iteF {c : Bool} (hc : c = false) (h : m' = x) : (if c = true then m else m') = x := by rw [hc]; exact h
theorem Is.ite {c : Bool} (h1 : c = true → m = x) (h2 : c = false → m' = x) : (if c = true then m else m') = x := by
  cases c
  · exact h2 rfl
  · exact h1 rfl
end
theorem ixg {l : List D} (k : Nat) (h : k < l.length) : ixR l (k : Int) = .ok (l.getD k .non) := by
  unfold ixR atI ixN
  rw [if_pos (by omega), if_pos (by omega), Int.toNat_natCast]
  simp [List.getElem?_eq_getElem h]
abbrev q1 (l : List D) : D := l.getD 1 .non
abbrev q2 (l : List D) : D := l.getD 2 .non
abbrev q3 (l : List D) : D := l.getD 3 .non
abbrev q4 (l : List D) : D := l.getD 4 .non
def cP (l : List D) : Bool := isStr (l.getD 0 .non) "plain" && (decide ((l.length : Int) = 2) && isWhole (q1 l) 0 255)
def cN (l : List D) : Bool := isStr (l.getD 0 .non) "moved" && (decide ((l.length : Int) = 4) && (isWhole (q1 l) 1 200 && isWhole (q2 l) 0 15))
def cX (l : List D) : Bool := isStr (l.getD 0 .non) "mixed" && decide ((l.length : Int) = 5)
def cY (l : List D) : Bool := (isWhole (q1 l) 1 200 && isWhole (q2 l) 0 15) && (isWhole (q3 l) 1 200 && isWhole (q4 l) 0 15)
def ruleL (l : List D) : Option K_Rule :=
  if cP l = true then some (.Plain (toI (q1 l))) else if (cN l && isWhole (q3 l) 0 255) = true then some (.Moved (toI (q1 l)) (toI (q2 l)) (toI (q3 l))) else
  if (cX l && cY l) = true then some (.Mixed (toI (q1 l)) (toI (q2 l)) (toI (q3 l)) (toI (q4 l))) else none
theorem as_int {d : D} {lo hi : Int} (h : isWhole d lo hi = true) : asI d = .ok (toI d) := by rw [whole_int h]; rfl
theorem rule_m {l : List D} (h : ∀ x ∈ l, eqOk 20 x = true) : m_rule_of (.tup l) = refE (ruleL l) := by
  cases l with
  | nil => rfl
  | cons w r =>
    have hw := h w List.mem_cons_self
    unfold m_rule_of
    refine Is.iteT (by decide +kernel : isS "tuple" "tuple" = true) (Is.bind (a := w :: r) rfl (Is.iteF (by simp; omega) ?_))
    have e0 : (w :: r).getD 0 .non = w := rfl
    generalize hl : w :: r = l at *
    have i0 : ixR l 0 = .ok w := by
      have := ixg (l := l) 0 (by rw [← hl]; simp)
      rw [e0] at this
      exact this
    refine Is.bind (a := cP l) ?_ ?_
    · refine Is.bind (a := l) rfl (Is.bind i0 ?_)
      rw [stepEq hw sp1]
      unfold cP
      rw [e0]
      refine Is.ite (fun c => ?_) fun c => by rw [c]; rfl
      rw [c]
      refine Is.bind (a := l) rfl (Is.ite (fun d => ?_) fun d => by rw [d]; rfl)
      rw [d]
      have := of_decide_eq_true d
      exact Is.bind (a := l) rfl (Is.bind (ixg 1 (by omega)) rfl)
    unfold ruleL
    refine Is.ite (fun c => ?_) fun c => ?_
    · rw [c]
      unfold cP at c
      simp only [Bool.and_eq_true, decide_eq_true_eq] at c
      exact Is.bind (a := l) rfl (Is.bind (ixg 1 (by omega)) (Is.bind (as_int c.2.2) rfl))
    rw [c]
    refine Is.bind (a := (if (cN l && isWhole (q3 l) 0 255) = true then Fl.rt (K_Rule.Moved (toI (q1 l)) (toI (q2 l)) (toI (q3 l))) else Fl.nx () : Fl Unit K_Rule)) ?_ ?_
    · refine Is.bind (a := cN l) ?_ ?_
      · refine Is.bind (a := l) rfl (Is.bind i0 ?_)
        rw [stepEq hw sp2]
        unfold cN
        rw [e0]
        refine Is.ite (fun c => ?_) fun c => by rw [c]; rfl
        rw [c]
        refine Is.bind (a := l) rfl (Is.ite (fun d => ?_) fun d => by rw [d]; rfl)
        rw [d]
        have := of_decide_eq_true d
        exact Is.bind (a := l) rfl (Is.bind (ixg 1 (by omega)) (Is.bind (a := l) rfl (Is.bind (ixg 2 (by omega)) (Is.bind (by rw [need_m]; rfl) rfl))))
      · refine Is.ite (fun c => ?_) fun c => by rw [c]; rfl
        rw [c]
        unfold cN at c
        simp only [Bool.and_eq_true, decide_eq_true_eq] at c
        refine Is.bind (a := l) rfl (Is.bind (ixg 3 (by omega)) (Is.bind (a := isWhole (q3 l) 0 255) rfl (Is.ite (fun d => ?_) fun d => by rw [show isWhole (q3 l) 0 255 = false from d]; rfl)))
        rw [show isWhole (q3 l) 0 255 = true from d]
        exact Is.bind (a := l) rfl (Is.bind (ixg 1 (by omega)) (Is.bind (a := l) rfl (Is.bind (ixg 2 (by omega)) (Is.bind (a := l) rfl (Is.bind (ixg 3 (by omega)) (Is.bind (as_int c.2.2.1) (Is.bind (as_int c.2.2.2) (Is.bind (as_int d) rfl))))))))
    cases cN l && isWhole (q3 l) 0 255 with
    | true => rfl
    | false =>
    show Res.bind _ _ = _
    refine Is.bind (a := (if (cX l && cY l) = true then Fl.rt (K_Rule.Mixed (toI (q1 l)) (toI (q2 l)) (toI (q3 l)) (toI (q4 l))) else Fl.nx () : Fl Unit K_Rule)) ?_ ?_
    · refine Is.bind (a := cX l) ?_ ?_
      · refine Is.bind (a := l) rfl (Is.bind i0 ?_)
        rw [stepEq hw sp3]
        unfold cX
        rw [e0]
        refine Is.ite (fun c => ?_) fun c => by rw [c]; rfl
        rw [c]
        exact Is.bind (a := l) rfl rfl
      · refine Is.ite (fun c => ?_) fun c => by rw [c]; rfl
        rw [c]
        unfold cX at c
        simp only [Bool.and_eq_true, decide_eq_true_eq] at c
        have b1 := ixg (l := l) 1 (by omega)
        have b2 := ixg (l := l) 2 (by omega)
        have b3 := ixg (l := l) 3 (by omega)
        have b4 := ixg (l := l) 4 (by omega)
        refine Is.bind (a := cY l) ?_ ?_
        · refine Is.bind (a := l) rfl (Is.bind b1 (Is.bind (a := l) rfl (Is.bind b2 (Is.bind (by rw [need_m]; rfl) ?_))))
          unfold cY
          refine Is.ite (fun d => ?_) fun d => by rw [show (isWhole (q1 l) 1 200 && isWhole (q2 l) 0 15) = false from d]; rfl
          rw [show (isWhole (q1 l) 1 200 && isWhole (q2 l) 0 15) = true from d]
          exact Is.bind (a := l) rfl (Is.bind b3 (Is.bind (a := l) rfl (Is.bind b4 (Is.bind (by rw [need_m]; rfl) rfl))))
        · refine Is.ite (fun d => ?_) fun d => by rw [d]; rfl
          rw [d]
          unfold cY at d
          simp only [Bool.and_eq_true] at d
          exact Is.bind (a := l) rfl (Is.bind b1 (Is.bind (a := l) rfl (Is.bind b2 (Is.bind (a := l) rfl (Is.bind b3 (Is.bind (a := l) rfl (Is.bind b4 (Is.bind (as_int d.1.1) (Is.bind (as_int d.1.2) (Is.bind (as_int d.2.1) (Is.bind (as_int d.2.2) rfl)))))))))))
    cases cX l && cY l <;> rfl
def rowR : K_Rule → List D
  | .Plain w => [.str "plain", .int w]
  | .Moved b c a => [.str "moved", .int b, .int c, .int a]
  | .Mixed b c b2 c2 => [.str "mixed", .int b, .int c, .int b2, .int c2]
def goodR : K_Rule → Prop
  | .Plain w => 0 ≤ w ∧ w ≤ 255
  | .Moved b c a => (1 ≤ b ∧ b ≤ 200) ∧ (0 ≤ c ∧ c ≤ 15) ∧ 0 ≤ a ∧ a ≤ 255
  | .Mixed b c b2 c2 => (1 ≤ b ∧ b ≤ 200) ∧ (0 ≤ c ∧ c ≤ 15) ∧ (1 ≤ b2 ∧ b2 ≤ 200) ∧ 0 ≤ c2 ∧ c2 ≤ 15
theorem whole_of {i lo hi : Int} (h : lo ≤ i) (h' : i ≤ hi) : isWhole (.int i) lo hi = true := by
  show (decide (lo ≤ i) && decide (i ≤ hi)) = true
  rw [decide_eq_true h, decide_eq_true h']
  rfl
theorem row_ok (r : K_Rule) : ∀ x ∈ rowR r, eqOk 18 x = true := by
  intro x m
  cases r <;> simp only [rowR, List.mem_cons, List.not_mem_nil, or_false] at m
  · rcases m with rfl | rfl
    · exact sp1
    · rfl
  · rcases m with rfl | rfl | rfl | rfl
    · exact sp2
    all_goals rfl
  · rcases m with rfl | rfl | rfl | rfl | rfl
    · exact sp3
    all_goals rfl
theorem is_self (s : Str) : isStr (.str s) s = true := decide_eq_true rfl
theorem rule_row {r : K_Rule} (h : goodR r) : m_rule_of (.tup (rowR r)) = .ok r := by
  rw [rule_m fun x m => by
    have := row_ok r x m
    cases x with
    | str s => exact this
    | int i => rfl
    | bl b => rfl
    | non => rfl
    | _ => cases r <;> simp [rowR] at m]
  have e : ruleL (rowR r) = some r := by
    cases r with
    | Plain w =>
      obtain ⟨h1, h2⟩ := h
      unfold ruleL
      rw [if_pos (show cP (rowR (.Plain w)) = true by
        show (isStr (.str "plain") "plain" && (true && isWhole (.int w) 0 255)) = true
        rw [is_self, whole_of h1 h2]
        rfl)]
      rfl
    | Moved b c a =>
      obtain ⟨⟨h1, h2⟩, ⟨h3, h4⟩, h5, h6⟩ := h
      unfold ruleL
      rw [if_neg (show ¬ cP (rowR (.Moved b c a)) = true by
        show ¬ (isStr (.str "moved") "plain" && _) = true
        rw [str_apart (is_self "moved") pm.symm]
        simp), if_pos (show (cN (rowR (.Moved b c a)) && isWhole (q3 (rowR (.Moved b c a))) 0 255) = true by
        show ((isStr (.str "moved") "moved" && (true && (isWhole (.int b) 1 200 && isWhole (.int c) 0 15))) && isWhole (.int a) 0 255) = true
        rw [is_self, whole_of h1 h2, whole_of h3 h4, whole_of h5 h6]
        rfl)]
      rfl
    | Mixed b c b2 c2 =>
      obtain ⟨⟨h1, h2⟩, ⟨h3, h4⟩, ⟨h5, h6⟩, h7, h8⟩ := h
      unfold ruleL
      rw [if_neg (show ¬ cP (rowR (.Mixed b c b2 c2)) = true by
        show ¬ (isStr (.str "mixed") "plain" && _) = true
        rw [str_apart (is_self "mixed") px.symm]
        simp), if_neg (show ¬ (cN (rowR (.Mixed b c b2 c2)) && isWhole (q3 (rowR (.Mixed b c b2 c2))) 0 255) = true by
        show ¬ ((isStr (.str "mixed") "moved" && _) && _) = true
        rw [str_apart (is_self "mixed") mx.symm]
        simp), if_pos (show (cX (rowR (.Mixed b c b2 c2)) && cY (rowR (.Mixed b c b2 c2))) = true by
        show ((isStr (.str "mixed") "mixed" && true) && ((isWhole (.int b) 1 200 && isWhole (.int c) 0 15) && (isWhole (.int b2) 1 200 && isWhole (.int c2) 0 15))) = true
        rw [is_self, whole_of h1 h2, whole_of h3 h4, whole_of h5 h6, whole_of h7 h8]
        rfl)]
      rfl
  rw [e]
  rfl
def fitsR (n w : Int) : K_Rule → Bool
  | .Plain _ => true
  | .Moved b c _ => decide (b ≤ n) && decide (c < w)
  | .Mixed b c b2 c2 => (decide (b ≤ n) && decide (c < w)) && (decide (b2 ≤ n) && decide (c2 < w))
def needs (r : K_Rule) : List (Tp2 Int Int) := match r with | .Plain _ => [] | .Moved b c _ => [⟨b, c⟩] | .Mixed b c b2 c2 => [⟨b, c⟩, ⟨b2, c2⟩]
inductive Lf where
  | full (t s : Int) (vs : List Int) | still (t s b : Int) | woven (t s : Int) (rs : List K_Rule)
def goodL : Lf → Prop
  | .full t s vs => ((0 ≤ t ∧ t ≤ 1000000000) ∧ 1 ≤ s ∧ s ≤ 1000000000) ∧ (∀ v ∈ vs, 0 ≤ v ∧ v ≤ 255) ∧ 1 ≤ vs.length ∧ vs.length ≤ 16
  | .still t s b => ((0 ≤ t ∧ t ≤ 1000000000) ∧ 1 ≤ s ∧ s ≤ 1000000000) ∧ 1 ≤ b ∧ b ≤ 200
  | .woven t s rs => ((0 ≤ t ∧ t ≤ 1000000000) ∧ 1 ≤ s ∧ s ≤ 1000000000) ∧ (∀ r ∈ rs, goodR r) ∧ 1 ≤ rs.length ∧ rs.length ≤ 16
def tupV (vs : List Int) : D := .tup (vs.map D.int)
def tupR (rs : List K_Rule) : D := .tup (rs.map fun r => .tup (rowR r))
def rowL : Lf → List D
  | .full t s vs => [.str "full", .int t, .int s, tupV vs]
  | .still t s b => [.str "still", .int t, .int s, .int b]
  | .woven t s rs => [.str "woven", .int t, .int s, tupR rs]
def leafL : Lf → K_Leaf
  | .full t s vs => .Full t s (tupV vs)
  | .still t s b => .Still t s b
  | .woven t s rs => .Woven t s (tupR rs)
theorem sf : PyData.strOk "full" = true := by decide +kernel
theorem ss : PyData.strOk "still" = true := by decide +kernel
theorem sw : PyData.strOk "woven" = true := by decide +kernel
theorem fs_ : ("full" : Str) ≠ "still" := by decide +kernel
theorem fw_ : ("full" : Str) ≠ "woven" := by decide +kernel
theorem sw_ : ("still" : Str) ≠ "woven" := by decide +kernel
theorem is_tup : isS "tuple" "tuple" = true := by decide +kernel
theorem row_value {t s : Int} {vs : List Int} (h : goodL (.full t s vs)) : m_is_row_of__is_value (tupV vs) = .ok true := by
  obtain ⟨_, hv, h1, h2⟩ := h
  unfold m_is_row_of__is_value
  refine Is.iteT is_tup (Is.bind (a := vs.map D.int) rfl (Is.iteT (by rw [List.length_map]; exact decide_eq_true (by omega)) (Is.iteT (by rw [List.length_map]; exact decide_eq_true (by omega)) (Is.bind (a := vs.map D.int) rfl ?_))))
  rw [compR_map (g := fun x => isWhole x 0 255) (by rw [List.length_map]; omega) (fun x _ => rfl)]
  show Res.ok (((vs.map D.int).map fun x => isWhole x 0 255).all id) = .ok true
  refine congrArg Res.ok ?_
  rw [List.all_map, List.all_map, List.all_eq_true]
  exact fun v m => whole_of (hv v m).1 (hv v m).2
theorem row_rule {t s : Int} {rs : List K_Rule} (h : goodL (.woven t s rs)) : m_is_row_of__is_rule (tupR rs) = .ok true := by
  obtain ⟨_, hv, h1, h2⟩ := h
  unfold m_is_row_of__is_rule
  refine Is.iteT is_tup (Is.bind (a := rs.map fun r => .tup (rowR r)) rfl (Is.iteT (by rw [List.length_map]; exact decide_eq_true (by omega)) (Is.iteT (by rw [List.length_map]; exact decide_eq_true (by omega)) (Is.bind (a := rs.map fun r => .tup (rowR r)) rfl ?_))))
  rw [compR_map (g := fun _ => true) (by rw [List.length_map]; omega) (fun x m => by
    obtain ⟨r, mr, rfl⟩ := List.mem_map.mp m
    refine Is.bind (a := true) ?_ rfl
    unfold m_is_rule
    rw [rule_row (hv r mr)]
    rfl)]
  show Res.ok (((rs.map fun r => D.tup (rowR r)).map fun _ => true).all id) = .ok true
  refine congrArg Res.ok ?_
  rw [List.all_map, List.all_map, List.all_eq_true]
  exact fun _ _ => rfl
theorem leaf_m {l : Lf} (h : goodL l) : m_leaf_of (.tup (rowL l)) = .ok (leafL l) := by
  unfold m_leaf_of
  have start : (rowL l).length = 4 := by cases l <;> rfl
  refine Is.iteT is_tup (Is.bind (a := rowL l) rfl (Is.iteF (by rw [start]; rfl) (Is.bind (a := rowL l) rfl ?_)))
  unfold guardR
  rw [if_pos start]
  cases l with
  | full t s vs =>
    refine Is.bind (a := .str "full") rfl (Is.bind (a := .int t) rfl (Is.bind (a := .int s) rfl (Is.bind (a := tupV vs) rfl (Is.bind (a := true) (by show Res.noErr (Res.ok (isWhole (.int t) 0 1000000000)) = _; rw [whole_of h.1.1.1 h.1.1.2]; rfl) (Is.iteT rfl (Is.bind (a := true) (by show Res.noErr (Res.ok (isWhole (.int s) 1 1000000000)) = _; rw [whole_of h.1.2.1 h.1.2.2]; rfl) (Is.iteT rfl ?_)))))))
    refine Is.bind (a := true) ?_ (Is.iteT rfl rfl)
    refine (stepEq (show eqOk 20 (.str "full") = true from sf) sf).trans ?_
    rw [is_self]
    refine Is.iteT rfl (Is.bind (a := true) (by rw [row_value h]; rfl) rfl)
  | still t s b =>
    refine Is.bind (a := .str "still") rfl (Is.bind (a := .int t) rfl (Is.bind (a := .int s) rfl (Is.bind (a := .int b) rfl (Is.bind (a := true) (by show Res.noErr (Res.ok (isWhole (.int t) 0 1000000000)) = _; rw [whole_of h.1.1.1 h.1.1.2]; rfl) (Is.iteT rfl (Is.bind (a := true) (by show Res.noErr (Res.ok (isWhole (.int s) 1 1000000000)) = _; rw [whole_of h.1.2.1 h.1.2.2]; rfl) (Is.iteT rfl ?_)))))))
    refine Is.bind (a := false) ?_ (Is.iteF rfl (Is.bind (a := true) ?_ (Is.iteT rfl rfl)))
    · refine (stepEq (show eqOk 20 (.str "still") = true from ss) sf).trans ?_
      rw [str_apart (is_self "still") fs_.symm]
      rfl
    · refine (stepEq (show eqOk 20 (.str "still") = true from ss) ss).trans ?_
      rw [is_self]
      exact Is.iteT rfl (Is.bind (a := true) (by show Res.noErr (Res.ok (isWhole (.int b) 1 200)) = _; rw [whole_of h.2.1 h.2.2]; rfl) rfl)
  | woven t s rs =>
    refine Is.bind (a := .str "woven") rfl (Is.bind (a := .int t) rfl (Is.bind (a := .int s) rfl (Is.bind (a := tupR rs) rfl (Is.bind (a := true) (by show Res.noErr (Res.ok (isWhole (.int t) 0 1000000000)) = _; rw [whole_of h.1.1.1 h.1.1.2]; rfl) (Is.iteT rfl (Is.bind (a := true) (by show Res.noErr (Res.ok (isWhole (.int s) 1 1000000000)) = _; rw [whole_of h.1.2.1 h.1.2.2]; rfl) (Is.iteT rfl ?_)))))))
    refine Is.bind (a := false) ?_ (Is.iteF rfl (Is.bind (a := false) ?_ (Is.iteF rfl (Is.bind (a := true) ?_ (Is.iteT rfl rfl)))))
    · refine (stepEq (show eqOk 20 (.str "woven") = true from sw) sf).trans ?_
      rw [str_apart (is_self "woven") fw_.symm]
      rfl
    · refine (stepEq (show eqOk 20 (.str "woven") = true from sw) ss).trans ?_
      rw [str_apart (is_self "woven") sw_.symm]
      rfl
    · refine (stepEq (show eqOk 20 (.str "woven") = true from sw) sw).trans ?_
      rw [is_self]
      exact Is.iteT rfl (Is.bind (a := true) (by rw [row_rule h]; rfl) rfl)
def fitsL (n w : Int) : Lf → Bool
  | .full _ _ vs => decide ((vs.length : Int) = w)
  | .still _ _ b => decide (b ≤ n)
  | .woven _ _ rs => decide ((rs.length : Int) = w) && rs.all (fitsR n w)
theorem mem_rng {n x : Int} (h : x ∈ rngI 0 n) : 0 ≤ x ∧ x < n := by
  unfold rngI at h
  simp only [List.mem_map, List.mem_range] at h
  obtain ⟨i, hi, e⟩ := h
  omega
theorem rng_mem {n x : Int} (h : 0 ≤ x) (h' : x < n) : x ∈ rngI 0 n := by
  unfold rngI
  simp only [List.mem_map, List.mem_range]
  exact ⟨x.toNat, by omega, by omega⟩
theorem ix_at {α : Type} {l : List α} {x : Int} {a : α} (h0 : 0 ≤ x) (h : l[x.toNat]? = some a) : ixR l x = .ok a := by
  have h1 := (List.getElem?_eq_some_iff.mp h).1
  unfold ixR atI ixN
  rw [if_pos h0, if_pos (by omega)]
  simp [h]
theorem whole_at {x k : Int} (h : 0 ≤ x) (h' : x < k) : m_is_whole (enc x) 0 (k - 1) = .ok true := congrArg Res.ok (whole_of h (by omega))
theorem full_at {t s : Int} {vs : List Int} {x : Int} (h : 0 ≤ x) (h' : x < (vs.length : Int)) : ∃ v, vs[x.toNat]? = some v ∧ m_Leaf__rule (leafL (.full t s vs)) (enc x) = .ok (.Plain v) := by
  have hx : x.toNat < vs.length := by omega
  refine ⟨vs[x.toNat], List.getElem?_eq_getElem hx, ?_⟩
  show m_Full__rule t s (tupV vs) (enc x) = _
  unfold m_Full__rule
  have e : ixR (vs.map D.int) x = .ok (.int vs[x.toNat]) := ix_at h (by rw [List.getElem?_map, List.getElem?_eq_getElem hx]; rfl)
  refine Is.bind (a := vs.map D.int) rfl (Is.bind (a := true) ?_ (Is.iteT rfl (Is.bind (a := x) rfl (Is.bind (a := vs.map D.int) rfl (Is.bind e (Is.bind (a := vs[x.toNat]) rfl rfl))))))
  rw [List.length_map, whole_at h h']
  rfl
theorem woven_at {t s : Int} {rs : List K_Rule} {x : Int} {r : K_Rule} (hr : ∀ r ∈ rs, goodR r) (h : 0 ≤ x) (e0 : rs[x.toNat]? = some r) : m_Leaf__rule (leafL (.woven t s rs)) (enc x) = .ok r := by
  have hx := (List.getElem?_eq_some_iff.mp e0).1
  show m_Woven__rule t s (tupR rs) (enc x) = _
  unfold m_Woven__rule
  have e : ixR (rs.map fun r => D.tup (rowR r)) x = .ok (.tup (rowR r)) := ix_at h (by rw [List.getElem?_map, e0]; rfl)
  refine Is.bind (a := rs.map fun r => D.tup (rowR r)) rfl (Is.bind (a := true) ?_ (Is.iteT rfl (Is.bind (a := x) rfl (Is.bind (a := rs.map fun r => D.tup (rowR r)) rfl (Is.bind e (Is.bind (rule_row (hr r (List.mem_of_getElem? e0))) rfl))))))
  rw [List.length_map, whole_at h (by omega)]
  rfl
theorem Ok.compAll {α S R : Type} {f : α → S → Res (Option R × S)} {l : List α} {s : S} (hl : l.length ≤ 1000000) (I : S → Prop) (G : R → Prop) (hf : ∀ x s, x ∈ l → I s → Ok (f x s) fun r => I r.2 ∧ ∃ b, r.1 = some b ∧ G b) (h : I s) : Ok (compR l s f) fun r => I r.2 ∧ (∀ b ∈ r.1, G b) ∧ r.1.length = l.length := by
  refine Ok.guard hl ?_
  clear hl
  induction l generalizing s with
  | nil => exact ⟨_, rfl, h, (fun _ m => nomatch m), rfl⟩
  | cons x xs ih =>
    refine Ok.bind (hf x s List.mem_cons_self h) ?_
    rintro ⟨_, s'⟩ ⟨h', b0, rfl, g⟩
    refine Ok.bind (ih (fun y s m h => hf y s (List.mem_cons_of_mem _ m) h) h') ?_
    rintro ⟨bs, s2⟩ ⟨h2, g2, g3⟩
    refine ⟨_, rfl, h2, fun b m => ?_, congrArg Nat.succ g3⟩
    rcases List.mem_cons.mp m with e | m
    · rw [e]; exact g
    · exact g2 b m
theorem rng_len (n : Int) : (rngI 0 n).length = n.toNat := by unfold rngI; simp
theorem Is.guard {α : Type} {m x : Res α} {p : Prop} [Decidable p] (hp : p) (h : m = x) : guardR p m = x := by unfold guardR; rw [if_pos hp]; exact h
theorem Is.lt {α β : Type} {d : α} {k : α → Res β} {x : Res β} (h : k d = x) : Y.lt d k = x := h
def dL (l : Lf) : D := .tup (rowL l)
def bgL : Lf → Int | .full t _ _ => t | .still t _ _ => t | .woven t _ _ => t
def spL : Lf → Int | .full _ s _ => s | .still _ s _ => s | .woven _ s _ => s
def Apart (l o : Lf) : Prop := bgL l + spL l ≤ bgL o ∨ bgL o + spL o ≤ bgL l
theorem take_more {α : Type} {l : List α} {i : Nat} {x : α} (h : l[i]? = some x) : l.take (i + 1) = l.take i ++ [x] := by
  rw [List.take_succ, h]
  rfl
theorem max_le {d b : Int} {l : List Int} (hl : l ≠ []) (h : ∀ x ∈ l, x ≤ b) : maxL d l ≤ b := by
  cases l with
  | nil => exact absurd rfl hl
  | cons n r =>
    obtain ⟨h1, _, _⟩ := foldmax r n
    rcases h1 with e | m
    · show r.foldl _ n ≤ b
      rw [e]; exact h n List.mem_cons_self
    · exact h _ (List.mem_cons_of_mem _ m)
theorem forRng {S R : Type} {f : Int → S → Res (Fl S R)} {n : Int} (I : Nat → S → Prop) (hf : ∀ (i : Nat) s, (i : Int) < n → I i s → Ok (f (i : Int) s) fun r => ∃ s', r = .nx s' ∧ I (i + 1) s') {s : S} (h : I 0 s) : Ok (forR (rngI 0 n) s f) fun r => ∃ s', r = .nx s' ∧ I n.toNat s' := by
  have go : ∀ k i s, i + k = n.toNat → I i s → Ok (forR ((rngI 0 n).drop i) s f) fun r => ∃ s', r = .nx s' ∧ I n.toNat s' := by
    intro k
    induction k with
    | zero =>
      intro i s hi h
      rw [List.drop_eq_nil_of_le (by rw [rng_len]; omega)]
      exact ⟨_, rfl, s, rfl, by rw [show n.toNat = i by omega]; exact h⟩
    | succ k ih =>
      intro i s hi h
      have hlt : i < (rngI 0 n).length := by rw [rng_len]; omega
      rw [List.drop_eq_getElem_cons hlt]
      have e : (rngI 0 n)[i] = (i : Int) := by
        have := List.getElem?_eq_getElem hlt
        rw [rngI_get (by omega)] at this
        have := Option.some.inj this
        omega
      rw [e]
      refine Ok.bind (hf i s (by omega) h) ?_
      rintro r ⟨s', rfl, h'⟩
      exact ih (i + 1) s' (by omega) h'
  have := go n.toNat 0 s (by omega) h
  rwa [List.drop_zero] at this
theorem back_ok {st : List Int} {n : Int} (h : st.length = 3) (h0 : 1 ≤ n) (h1 : n ≤ 199) : Ok (l_back st n) fun r => (1 ≤ r.1 ∧ r.1 ≤ n) ∧ r.2.length = 3 := by
  unfold l_back
  have hm : 1 ≤ minI n 3 ∧ minI n 3 ≤ n ∧ minI n 3 ≤ 3 := by unfold minI; split <;> omega
  refine dw h (by decide) (by decide) fun x1 s1 a1 b1 h1' => Ok.ite (fun _ => ?_) fun _ => ?_
  · exact dw h1' (by omega) (by omega) fun x2 s2 a2 b2 h2 => Ok.pure ⟨⟨by simp only; omega, by simp only; omega⟩, h2⟩
  · exact dw h1' (by omega) (by omega) fun x2 s2 a2 b2 h2 => Ok.pure ⟨⟨by simp only; omega, by simp only; omega⟩, h2⟩
theorem ruleF_ok {st : List Int} {n w : Int} (h : st.length = 3) (n0 : 0 ≤ n) (n1 : n ≤ 199) (w0 : 1 ≤ w) (w1 : w ≤ 16) : Ok (l_rule st n w) fun r => (∃ q, r.1 = .tup (rowR q) ∧ goodR q ∧ fitsR n w q = true) ∧ r.2.length = 3 := by
  unfold l_rule
  refine dw h (by decide) (by decide) fun x1 s1 a1 b1 h1 => Ok.bind (φ := fun b => b = false → n ≠ 0) (Ok.ite (fun _ => Ok.pure fun z => nomatch z) fun c => Ok.pure fun _ => of_decide_eq_false c) fun b hb => Ok.ite (fun _ => ?_) fun c => ?_
  · exact dw h1 (by decide) (by decide) fun x2 s2 a2 b2 h2 => Ok.pure ⟨⟨.Plain x2, rfl, ⟨a2, by omega⟩, rfl⟩, h2⟩
  have nz := hb c
  refine Ok.bind (back_ok h1 (by omega) n1) fun ⟨x2, s2⟩ ⟨⟨a2, b2⟩, h2⟩ => dw h2 (by omega) (by omega) fun x3 s3 a3 b3 h3 => Ok.ite (fun _ => ?_) fun _ => ?_
  · refine dw h3 (by decide) (by decide) fun x4 s4 a4 b4 h4 => Ok.pure ⟨⟨.Moved x2 x3 x4, rfl, ⟨⟨a2, by simp only at b2; omega⟩, ⟨a3, by omega⟩, a4, by omega⟩, ?_⟩, h4⟩
    show (decide (x2 ≤ n) && decide (x3 < w)) = true
    rw [decide_eq_true b2, decide_eq_true b3]; rfl
  · refine Ok.bind (back_ok h3 (by omega) n1) fun ⟨x4, s4⟩ ⟨⟨a4, b4⟩, h4⟩ => dw h4 (by omega) (by omega) fun x5 s5 a5 b5 h5 => Ok.pure ⟨⟨.Mixed x2 x3 x4 x5, rfl, ⟨⟨a2, by simp only at b2; omega⟩, ⟨a3, by omega⟩, ⟨a4, by simp only at b4; omega⟩, a5, by omega⟩, ?_⟩, h5⟩
    show ((decide (x2 ≤ n) && decide (x3 < w)) && (decide (x4 ≤ n) && decide (x5 < w))) = true
    rw [decide_eq_true b2, decide_eq_true b3, decide_eq_true b4, decide_eq_true b5]; rfl
def SlotOk (s : Tp2 Int Int) : Prop := (0 ≤ s.a ∧ s.a ≤ 1000000000) ∧ 1 ≤ s.b ∧ s.b ≤ 1000000000
theorem rowsF_of {n w : Int} : ∀ {l : List D}, (∀ d ∈ l, ∃ q, d = .tup (rowR q) ∧ goodR q ∧ fitsR n w q = true) → ∃ rs : List K_Rule, l = rs.map (fun r => .tup (rowR r)) ∧ ∀ r ∈ rs, goodR r ∧ fitsR n w r = true
  | [], _ => ⟨[], rfl, fun _ m => nomatch m⟩
  | d :: l, h => by
    obtain ⟨q, rfl, hq⟩ := h d List.mem_cons_self
    obtain ⟨rs, rfl, hr⟩ := rowsF_of fun y m => h y (List.mem_cons_of_mem _ m)
    refine ⟨q :: rs, rfl, fun r m => ?_⟩
    rcases List.mem_cons.mp m with rfl | m
    · exact hq
    · exact hr r m
theorem leafF_ok {st : List Int} {n w : Int} {sl : Tp2 Int Int} (h : st.length = 3) (hs : SlotOk sl) (n0 : 0 ≤ n) (n1 : n ≤ 199) (w0 : 1 ≤ w) (w1 : w ≤ 16) : Ok (l_leaf st n w sl) fun r => (∃ l, r.1 = dL l ∧ goodL l ∧ fitsL n w l = true ∧ bgL l = sl.a ∧ spL l = sl.b) ∧ r.2.length = 3 := by
  unfold l_leaf
  refine dw h (by decide) (by decide) fun x1 s1 a1 b1 h1 => Ok.ite (fun _ => Ok.guard (by omega) ?_) fun _ => ?_
  · refine Ok.bind (Ok.compAll (by rw [rng_len]; omega) (fun s => s.length = 3) (fun v => 0 ≤ v ∧ v ≤ 255) (fun x s m hs => dw hs (by decide) (by decide) fun y s' a b h' => Ok.pure ⟨h', y, rfl, a, by omega⟩) h1) ?_
    rintro ⟨vs, s6⟩ ⟨h6, hv, hl⟩
    simp only at hv hl h6
    rw [rng_len] at hl
    refine Ok.pure ⟨⟨.full sl.a sl.b vs, rfl, ⟨hs, hv, by omega, by omega⟩, ?_, rfl, rfl⟩, h6⟩
    exact decide_eq_true (show (vs.length : Int) = w by omega)
  refine Ok.bind (φ := fun b => b = true → 1 ≤ n) (Ok.ite (fun _ => Ok.pure fun z => of_decide_eq_true z) fun _ => Ok.pure fun z => nomatch z) fun b hb => Ok.ite (fun c => ?_) fun _ => Ok.guard (by omega) ?_
  · have nz := hb c
    refine Ok.bind (back_ok h1 nz n1) fun ⟨x2, s2⟩ ⟨⟨a2, b2⟩, h2⟩ => Ok.pure ⟨⟨.still sl.a sl.b x2, rfl, ⟨hs, a2, by simp only at b2; omega⟩, decide_eq_true b2, rfl, rfl⟩, h2⟩
  · refine Ok.bind (Ok.compAll (by rw [rng_len]; omega) (fun s => s.length = 3) (fun d => ∃ q, d = .tup (rowR q) ∧ goodR q ∧ fitsR n w q = true) (fun x s m hs => Ok.bind (ruleF_ok hs n0 n1 w0 w1) fun ⟨d, s'⟩ ⟨p, h'⟩ => Ok.pure ⟨h', d, rfl, p⟩) h1) ?_
    rintro ⟨ds, s6⟩ ⟨h6, hv, hl⟩
    simp only at hv hl h6
    rw [rng_len] at hl
    obtain ⟨rs, rfl, hr⟩ := rowsF_of hv
    rw [List.length_map] at hl
    refine Ok.pure ⟨⟨.woven sl.a sl.b rs, ?_, ⟨hs, fun r m => (hr r m).1, by omega, by omega⟩, ?_, rfl, rfl⟩, h6⟩
    · show D.tup [.str "woven", .int sl.a, .int sl.b, .tup ((rs.map fun r => D.tup (rowR r)).map enc)] = _
      rw [enc_Ds]
      rfl
    · show (decide ((rs.length : Int) = w) && rs.all (fitsR n w)) = true
      rw [decide_eq_true (show (rs.length : Int) = w by omega), List.all_eq_true.mpr fun r m => (hr r m).2]
      rfl
def SA (s t : Tp2 Int Int) : Prop := s.a + s.b ≤ t.a ∨ t.a + t.b ≤ s.a
theorem SA.symm {s t : Tp2 Int Int} (h : SA s t) : SA t s := Or.symm h
theorem slots_ok {st : List Int} {m : Int} (h : st.length = 3) (m0 : 0 ≤ m) (m1 : m ≤ 100) : Ok (l_slots st m) fun r => (r.1.length = m.toNat ∧ (∀ s ∈ r.1, SlotOk s) ∧ r.1.Pairwise SA) ∧ r.2.length = 3 := by
  unfold l_slots
  refine dw h (by decide) (by decide) fun x1 s1 a1 b1 h1 => Ok.ixm a1 b1 fun far mf => dw h1 (by decide) (by decide) fun x2 s2 a2 b2 h2 => ?_
  have hf : 1 ≤ far ∧ far ≤ 1000000 := by
    simp only [List.mem_cons, List.not_mem_nil, or_false] at mf
    rcases mf with rfl | rfl | rfl | rfl <;> omega
  have hx : 0 ≤ x2 * far ∧ x2 * far ≤ 2000000 := by
    have e : x2 = 0 ∨ x2 = 1 ∨ x2 = 2 := by omega
    rcases e with rfl | rfl | rfl <;> omega
  refine Ok.guard (mulW (a := 2) (b := 20) (by omega) (by omega)) (Ok.lt (Ok.guard (by omega) ?_))
  refine Ok.bind (forRng (n := m) (fun i (q : Int × List Int × List (Tp2 Int Int)) => (0 ≤ q.1 ∧ q.1 ≤ 2000000 + i * 9000000) ∧ q.2.1.length = 3 ∧ q.2.2.length = i ∧ (∀ s ∈ q.2.2, SlotOk s ∧ s.a + s.b ≤ q.1) ∧ q.2.2.Pairwise SA) (fun i q hi hq => ?_) ⟨⟨hx.1, by simp only; omega⟩, h2, rfl, (fun _ z => nomatch z), .nil⟩) ?_
  · obtain ⟨at_, sq, ss⟩ := q
    obtain ⟨⟨q1, q2⟩, q3, q4, q5, q6⟩ := hq
    simp only at q1 q2 q3 q4 q5 q6
    have hi' : (i : Int) ≤ 99 := by omega
    refine dw q3 (by omega) (by omega) fun x3 s3 a3 b3 h3 => Ok.lt (Ok.guard (by simp only; omega) (dw h3 (by decide) (by decide) fun x4 s4 a4 b4 h4 => Ok.ixm a4 b4 fun on mo => dw h4 (by omega) (by omega) fun x5 s5 a5 b5 h5 => ?_))
    have ho : on = 0 ∨ on = 1 := by
      simp only [List.mem_cons, List.not_mem_nil, or_false] at mo
      rcases mo with rfl | rfl | rfl | rfl
      · exact .inl rfl
      · exact .inl rfl
      · exact .inl rfl
      · exact .inr rfl
    have hg : 0 ≤ on * x5 ∧ on * x5 ≤ 3000000 := by rcases ho with rfl | rfl <;> omega
    refine Ok.guard (mulW (a := 2) (b := 30) (by rcases ho with rfl | rfl <;> decide) (by omega)) (Ok.lt (Ok.pure ⟨_, rfl, ⟨by simp only; omega, by simp only; omega⟩, h5, by simp only [List.length_append, List.length_cons, List.length_nil]; omega, fun s ms => ?_, ?_⟩))
    · rcases List.mem_append.mp ms with ms | ms
      · exact ⟨(q5 s ms).1, by have := (q5 s ms).2; simp only; omega⟩
      · rw [List.mem_singleton.mp ms]
        exact ⟨⟨⟨q1, by simp only; omega⟩, by simp only; omega, by simp only; omega⟩, by simp only; omega⟩
    · refine List.pairwise_append.mpr ⟨q6, List.pairwise_singleton .., fun s ms t mt => ?_⟩
      rw [List.mem_singleton.mp mt]
      exact .inl (q5 s ms).2
  · rintro _ ⟨⟨at_, sq, ss⟩, rfl, _, q3, q4, q5, q6⟩
    exact Ok.pure ⟨⟨q4, fun s ms => (q5 s ms).1, q6⟩, q3⟩
theorem popR_in {α : Type} {l : List α} {i : Int} (h0 : 0 ≤ i) (h1 : i < (l.length : Int)) (hz : l.length ≤ 1000000) : ∃ x, l[i.toNat]? = some x ∧ popR l i = .ok (x, l.eraseIdx i.toNat) := by
  have hlt : i.toNat < l.length := by omega
  refine ⟨l[i.toNat], List.getElem?_eq_getElem hlt, ?_⟩
  unfold popR
  rw [if_pos ⟨h0, h1, hz⟩, List.getElem?_eq_getElem hlt]
theorem pop_apart {α : Type} {R : α → α → Prop} (hs : ∀ {a b}, R a b → R b a) : ∀ {l : List α} {i : Nat} {x : α}, l.Pairwise R → l[i]? = some x → ∀ y ∈ l.eraseIdx i, R x y
  | a :: l, 0, x, h, e, y, m => by
    cases e
    exact (List.pairwise_cons.mp h).1 y m
  | a :: l, i + 1, x, h, e, y, m => by
    have e' : l[i]? = some x := e
    have m' : y ∈ a :: l.eraseIdx i := m
    obtain ⟨h1, h2⟩ := List.pairwise_cons.mp h
    rcases List.mem_cons.mp m' with rfl | m'
    · exact hs (h1 x (List.mem_of_getElem? e'))
    · exact pop_apart hs h2 e' y m'
theorem leavesF_ok {st : List Int} {m w : Int} (h : st.length = 3) (m0 : 0 ≤ m) (m1 : m ≤ 100) (w0 : 1 ≤ w) (w1 : w ≤ 16) : Ok (l_leaves st m w) fun r => (∃ ls : List Lf, r.1 = ls.map dL ∧ ls.length = m.toNat ∧ (∀ (i : Nat) l, ls[i]? = some l → goodL l ∧ fitsL i w l = true) ∧ ls.Pairwise Apart) ∧ r.2.length = 3 := by
  unfold l_leaves
  refine dw h (by decide) (by decide) fun x1 s1 a1 b1 h1 => Ok.lt (Ok.bind (slots_ok h1 m0 m1) ?_)
  rintro ⟨ss, s2⟩ ⟨⟨l1, l2, l3⟩, h2⟩
  simp only at l1 l2 l3 h2
  refine Ok.guard (by omega) (Ok.bind (forRng (n := m) (fun i (q : List Int × List D × List (Tp2 Int Int)) => q.1.length = 3 ∧ (∃ ls : List Lf, q.2.1 = ls.map dL ∧ ls.length = i ∧ (∀ (k : Nat) l, ls[k]? = some l → goodL l ∧ fitsL k w l = true) ∧ ls.Pairwise Apart ∧ ∀ l ∈ ls, ∀ s ∈ q.2.2, SA ⟨bgL l, spL l⟩ s) ∧ q.2.2.length + i = m.toNat ∧ (∀ s ∈ q.2.2, SlotOk s) ∧ q.2.2.Pairwise SA) (fun i q hi hq => ?_) ⟨h2, ⟨[], rfl, rfl, (fun _ _ z => by simp at z), .nil, fun _ z => nomatch z⟩, by simp only; omega, l2, l3⟩) ?_)
  · obtain ⟨sq, ds, rs⟩ := q
    obtain ⟨q1, ⟨ls, q2, q3, q4, q5, q6⟩, q7, q8, q9⟩ := hq
    simp only at q1 q2 q6 q7 q8 q9
    have hpos : 0 < rs.length := by omega
    refine Ok.bind (φ := fun r => (0 ≤ r.1 ∧ r.1 < (rs.length : Int)) ∧ r.2.length = 3) (Ok.ite (fun _ => dw q1 (by simp only; omega) (by simp only; omega) fun x s a b h' => Ok.pure ⟨⟨a, b⟩, h'⟩) fun _ => Ok.pure ⟨⟨by simp only; omega, by simp only; omega⟩, q1⟩) ?_
    rintro ⟨p, s3⟩ ⟨⟨p0, p1⟩, h3⟩
    simp only at p0 p1 h3
    obtain ⟨x, ex, ep⟩ := popR_in (l := rs) p0 p1 (by omega)
    have mx := List.mem_of_getElem? ex
    refine Ok.bindE ep (Ok.bind (leafF_ok h3 (q8 x mx) (by omega) (by omega) w0 w1) ?_)
    rintro ⟨_, s4⟩ ⟨⟨l, rfl, g1, g2, g3, g4⟩, h4⟩
    have xs : (⟨bgL l, spL l⟩ : Tp2 Int Int) = x := by rw [g3, g4]
    refine Ok.guard (by simp only; rw [q2, List.length_map]; omega) (Ok.pure ⟨_, rfl, h4, ⟨ls ++ [l], ?_, ?_, fun k l' e => ?_, ?_, fun l' ml s ms => ?_⟩, ?_, fun s ms => q8 s (List.mem_of_mem_eraseIdx ms), q9.sublist (List.eraseIdx_sublist ..)⟩)
    · simp only
      rw [q2, List.map_append]
      rfl
    · rw [List.length_append, q3]; rfl
    · rcases Nat.lt_or_ge k ls.length with c | c
      · rw [List.getElem?_append_left c] at e
        exact q4 k l' e
      · rw [List.getElem?_append_right c] at e
        have hk : k - ls.length = 0 := by
          cases q : k - ls.length with
          | zero => rfl
          | succ j => rw [q] at e; simp at e
        rw [hk] at e
        cases e
        have : (k : Int) = (i : Int) := by omega
        rw [this]
        exact ⟨g1, g2⟩
    · refine List.pairwise_append.mpr ⟨q5, List.pairwise_singleton .., fun o mo y my => ?_⟩
      rw [List.mem_singleton.mp my]
      have := q6 o mo x mx
      rw [← xs] at this
      exact this
    · rcases List.mem_append.mp ml with ml | ml
      · exact q6 l' ml s (List.mem_of_mem_eraseIdx ms)
      · rw [List.mem_singleton.mp ml, xs]
        exact pop_apart (fun h => h.symm) q9 ex s ms
    · simp only
      rw [List.length_eraseIdx_of_lt (by omega)]
      omega
  · rintro _ ⟨⟨sq, ds, rs⟩, rfl, q1, ⟨ls, q2, q3, q4, q5, q6⟩, _⟩
    exact Ok.pure ⟨⟨ls, q2, q3, q4, q5⟩, q1⟩
def atN (pn : List (List Int)) (j c : Nat) : Int := ((pn[j]?).getD []).getD c 0
def valR (n : Nat) (pn : List (List Int)) : K_Rule → Int
  | .Plain v => v
  | .Moved b c a => (atN pn (n - b.toNat) c.toNat + a) % 256
  | .Mixed b c b2 c2 => (atN pn (n - b.toNat) c.toNat + atN pn (n - b2.toNat) c2.toNat) / 2
def ruleAt (l : Lf) (c : Nat) : K_Rule := match l with
  | .full _ _ vs => .Plain (vs.getD c 0)
  | .still _ _ b => .Moved b (c : Int) 0
  | .woven _ _ rs => rs.getD c (.Plain 0)
def picL (w : Nat) (l : Lf) (n : Nat) (pn : List (List Int)) : List Int := (List.range w).map fun c => valR n pn (ruleAt l c)
def picsT (w : Nat) (ls : List Lf) : Nat → List (List Int)
  | 0 => []
  | i + 1 => match ls[i]? with | some l => picsT w ls i ++ [picL w l i (picsT w ls i)] | none => picsT w ls i
theorem ruleAt_ok {l : Lf} {n w c : Nat} (h : goodL l) (hf : fitsL n w l = true) (hc : c < w) (hw : w ≤ 16) : m_Leaf__rule (leafL l) (enc (c : Int)) = .ok (ruleAt l c) ∧ goodR (ruleAt l c) ∧ fitsR n w (ruleAt l c) = true := by
  cases l with
  | full t s vs =>
    have hl : (vs.length : Int) = w := of_decide_eq_true hf
    obtain ⟨v, e, ev⟩ := full_at (t := t) (s := s) (vs := vs) (x := (c : Int)) (by omega) (by omega)
    rw [Int.toNat_natCast] at e
    have e2 : ruleAt (.full t s vs) c = .Plain v := by
      show K_Rule.Plain (vs.getD c 0) = _
      rw [List.getD_eq_getElem?_getD, e]
      rfl
    rw [e2]
    exact ⟨ev, h.2.1 v (List.mem_of_getElem? e), rfl⟩
  | still t s b =>
    refine ⟨?_, ⟨h.2, ⟨by omega, by omega⟩, by decide, by decide⟩, ?_⟩
    · show m_Still__rule t s b (enc (c : Int)) = _
      unfold m_Still__rule
      refine Is.bind (a := true) ?_ (Is.iteT rfl (Is.bind (a := (c : Int)) rfl rfl))
      show Res.noErr (Res.ok (isWhole (.int (c : Int)) 0 15)) = _
      rw [whole_of (by omega) (by omega)]; rfl
    · have hb : b ≤ (n : Int) := of_decide_eq_true hf
      show (decide (b ≤ (n : Int)) && decide ((c : Int) < (w : Int))) = true
      rw [decide_eq_true hb, decide_eq_true (by omega)]; rfl
  | woven t s rs =>
    have hf' : (decide ((rs.length : Int) = w) && rs.all (fitsR n w)) = true := hf
    simp only [Bool.and_eq_true, decide_eq_true_eq] at hf'
    have hx : c < rs.length := by omega
    have e0 := List.getElem?_eq_getElem hx
    have e2 : ruleAt (.woven t s rs) c = rs[c] := by
      show rs.getD c (.Plain 0) = _
      rw [List.getD_eq_getElem?_getD, e0]
      rfl
    rw [e2]
    exact ⟨woven_at h.2.1 (x := (c : Int)) (by omega) (by rw [Int.toNat_natCast]; exact e0), h.2.1 _ (List.getElem_mem hx), List.all_eq_true.mp hf'.2 _ (List.getElem_mem hx)⟩
theorem picsT_len {w : Nat} {ls : List Lf} : ∀ {i : Nat}, i ≤ ls.length → (picsT w ls i).length = i
  | 0, _ => rfl
  | i + 1, h => by
    unfold picsT
    rw [List.getElem?_eq_getElem (show i < ls.length by omega)]
    show (picsT w ls i ++ [_]).length = _
    rw [List.length_append, picsT_len (by omega)]
    rfl
theorem picsT_more {w : Nat} {ls : List Lf} {i : Nat} {l : Lf} (h : ls[i]? = some l) : picsT w ls (i + 1) = picsT w ls i ++ [picL w l i (picsT w ls i)] := by
  show (match ls[i]? with | some l => picsT w ls i ++ [picL w l i (picsT w ls i)] | none => picsT w ls i) = _
  rw [h]
structure OkL (w : Nat) (ls : List Lf) : Prop where
  fit : ∀ (i : Nat) l, ls[i]? = some l → goodL l ∧ fitsL i w l = true
  many : ls.length ≤ 200
  wide : w ≤ 16
theorem picsT_take {w : Nat} {ls : List Lf} : ∀ {n i : Nat}, i ≤ n → n ≤ ls.length → (picsT w ls n).take i = picsT w ls i
  | 0, i, h, _ => by
    have : i = 0 := by omega
    subst this
    rfl
  | n + 1, i, h, hn => by
    by_cases c : i = n + 1
    · rw [c, List.take_of_length_le (by rw [picsT_len hn]; exact Nat.le_refl _)]
    · rw [picsT_more (List.getElem?_eq_getElem (show n < ls.length by omega)), List.take_append_of_le_length (by rw [picsT_len (by omega)]; omega), picsT_take (by omega) (by omega)]
theorem picsT_at {w : Nat} {ls : List Lf} {n i : Nat} {l : Lf} (hl : ls[i]? = some l) (h : i < n) (hn : n ≤ ls.length) : (picsT w ls n)[i]? = some (picL w l i (picsT w ls i)) := by
  have e := picsT_take (w := w) (ls := ls) (n := n) (i := i + 1) (by omega) hn
  have : ((picsT w ls n).take (i + 1))[i]? = (picsT w ls n)[i]? := List.getElem?_take_of_lt (by omega)
  rw [← this, e, picsT_more hl, List.getElem?_append_right (by rw [picsT_len (by omega)]; omega), picsT_len (by omega), Nat.sub_self]
  rfl
theorem val_ext {w n : Nat} {pn pm : List (List Int)} {r : K_Rule} (hr : goodR r) (hf : fitsR n w r = true) (h : ∀ j, j < n → pn[j]? = pm[j]?) : valR n pn r = valR n pm r := by
  have one : ∀ (b : Int) (c : Nat), 1 ≤ b → b ≤ (n : Int) → atN pn (n - b.toNat) c = atN pm (n - b.toNat) c := fun b c b0 b1 => by unfold atN; rw [h (n - b.toNat) (by omega)]
  cases r with
  | Plain v => rfl
  | Moved b c a =>
    have hf' : (decide (b ≤ (n : Int)) && decide (c < (w : Int))) = true := hf
    simp only [Bool.and_eq_true, decide_eq_true_eq] at hf'
    show (atN pn (n - b.toNat) c.toNat + a) % 256 = _
    rw [one b _ hr.1.1 hf'.1]
    rfl
  | Mixed b c b2 c2 =>
    have hf' : ((decide (b ≤ (n : Int)) && decide (c < (w : Int))) && (decide (b2 ≤ (n : Int)) && decide (c2 < (w : Int)))) = true := hf
    simp only [Bool.and_eq_true, decide_eq_true_eq] at hf'
    show (atN pn (n - b.toNat) c.toNat + atN pn (n - b2.toNat) c2.toNat) / 2 = _
    rw [one b _ hr.1.1 hf'.1.1, one b2 _ hr.2.2.1.1 hf'.2.1]
    rfl
theorem Ok.un2 {α β γ : Type} {m : Res (α × β)} {φ : α × β → Prop} {k : α → β → Res γ} {ψ : γ → Prop} (h : Ok m φ) (hk : ∀ a b, φ (a, b) → Ok (k a b) ψ) : Ok (m.bind (Y.un2 k)) ψ := by
  obtain ⟨⟨a, b⟩, e, p⟩ := h
  rw [e]
  exact hk a b p
theorem Ok.while {S R : Type} {f : S → Res (Fl S R)} (I : S → Prop) (Q : S → Prop) (μ : S → Nat) (hf : ∀ s, I s → Ok (f s) fun r => (∃ s', r = .nx s' ∧ I s' ∧ μ s' < μ s) ∨ ∃ s', r = .bk s' ∧ Q s') : ∀ (n : Nat) {s : S}, μ s < n → I s → Ok (whileR n s f) fun r => ∃ s', r = .bk s' ∧ Q s'
  | 0, s, h, _ => absurd h (Nat.not_lt_zero _)
  | n + 1, s, h, hI => by
    refine Ok.bind (hf s hI) ?_
    rintro r (⟨s', rfl, h', hm⟩ | ⟨s', rfl, q⟩)
    · exact Ok.while I Q μ hf n (by omega) h'
    · exact Ok.pure ⟨s', rfl, q⟩
theorem ix_last {α : Type} {pre : List α} {f : α} : ixR (pre ++ [f]) (-1) = .ok f := by
  have e : ixN (pre ++ [f]).length (-1) = some pre.length := by
    unfold ixN
    rw [List.length_append, List.length_singleton]
    simp
    constructor <;> omega
  unfold ixR atI
  rw [e]
  simp
theorem popE_last {α : Type} {pre : List α} {f : α} : popE (pre ++ [f]) = .ok (f, pre) := by
  unfold popE
  simp
theorem mem_rngI {lo hi x : Int} (h : x ∈ rngI lo hi) : lo ≤ x ∧ x < hi := by
  unfold rngI at h
  obtain ⟨i, m, rfl⟩ := List.mem_map.mp h
  have := List.mem_range.mp m
  omega
abbrev Cl := Int × Int
inductive Hng (need : Cl → List Cl) (S : List Cl) : Cl → Prop where
  | base {c : Cl} (h : c ∈ S) : Hng need S c
  | step {c d : Cl} (h : Hng need S c) (m : d ∈ need c) : Hng need S d
theorem okPr (l : List Cl) : eqOk 20 (enc l) = true := by
  show eqOks 19 (l.map enc) = true
  induction l with
  | nil => rfl
  | cons x xs ih => show (eqOk 19 (enc x) && eqOks 19 (xs.map enc)) = true; rw [ih]; rfl
theorem eqPr_nil (l : List Cl) : eqD (enc l) (enc ([] : List Y.D)) = l.isEmpty := by cases l <;> rfl
theorem hasA_iff {l : List (Cl × Bool)} {c : Cl} : hasA l c = true ↔ c ∈ l.map (·.1) := by
  unfold hasA getA
  rw [Option.isSome_map, List.find?_isSome]
  constructor
  · rintro ⟨x, m, h⟩
    exact List.mem_map.mpr ⟨x, m, of_decide_eq_true h⟩
  · intro h
    obtain ⟨x, m, e⟩ := List.mem_map.mp h
    exact ⟨x, m, decide_eq_true e⟩
theorem putA_new {l : List (Cl × Bool)} {c : Cl} (h : c ∉ l.map (·.1)) : putA l c true = l ++ [(c, true)] := by
  unfold putA
  rw [if_neg fun z => h ?_]
  obtain ⟨x, m, e⟩ := List.any_eq_true.mp z
  exact List.mem_map.mpr ⟨x, m, of_decide_eq_true e⟩
theorem nodup_le {α : Type} [DecidableEq α] : ∀ {l U : List α}, l.Nodup → (∀ c ∈ l, c ∈ U) → l.length ≤ U.length
  | [], U, _, _ => Nat.zero_le _
  | a :: l, U, h, hu => by
    have h' := List.nodup_cons.mp h
    have ha := hu a List.mem_cons_self
    have ih := nodup_le (l := l) (U := U.erase a) h'.2 fun c m => (List.mem_erase_of_ne (show c ≠ a from fun e => h'.1 (by rw [← e]; exact m))).mpr (hu c (List.mem_cons_of_mem _ m))
    rw [List.length_erase_of_mem ha] at ih
    have : 0 < U.length := List.length_pos_of_mem ha
    rw [List.length_cons]
    omega
theorem hungW_ok {R : Type} {nd : Cl → Res (List Cl)} {need : Cl → List Cl} {U S : List Cl} (hU : U.length ≤ 1000) (hS : ∀ c ∈ S, c ∈ U) (hSl : S.length ≤ 900) (hn : ∀ c ∈ U, nd c = .ok (need c) ∧ (need c).length ≤ 2 ∧ ∀ d ∈ need c, d ∈ U) :
    Ok (whileR 4000 ((S, ([] : List (Cl × Bool))) : List Cl × List (Cl × Bool)) (fun a29 : List Cl × List (Cl × Bool) => guardR (okEq (enc a29.1) (enc ([] : List Y.D))) <| (if (!(eqD (enc a29.1) (enc ([] : List Y.D)))) = true then (popE a29.1).bind fun x45 => (if (hasA a29.2 x45.1 != true) = true then guardR (a29.2.length < 1000000) <| (nd x45.1).bind fun x52 => guardR (x45.2.length + x52.length ≤ 1000000) <| .ok (.nx ((x45.2 ++ x52), (putA a29.2 x45.1 (true : Bool)))) else .ok (.nx (x45.2, a29.2))) else (.ok (.bk (a29.1, a29.2)) : Res (Fl (List Cl × List (Cl × Bool)) R)))))
      fun r => ∃ s, r = .bk s ∧ (s.2.map (·.1)).Nodup ∧ (∀ c ∈ s.2.map (·.1), c ∈ U ∧ Hng need S c) ∧ ∀ c, Hng need S c → c ∈ s.2.map (·.1) := by
  refine Ok.while (fun s : List Cl × List (Cl × Bool) => (s.2.map (·.1)).Nodup ∧ (∀ c ∈ s.2.map (·.1), c ∈ U ∧ Hng need S c) ∧ (∀ c ∈ s.1, c ∈ U ∧ Hng need S c) ∧ (∀ c ∈ S, c ∈ s.1 ∨ c ∈ s.2.map (·.1)) ∧ (∀ c ∈ s.2.map (·.1), ∀ d ∈ need c, d ∈ s.1 ∨ d ∈ s.2.map (·.1)) ∧ s.1.length + 3 * (1000 - s.2.length) ≤ 3900)
    (fun s : List Cl × List (Cl × Bool) => (s.2.map (·.1)).Nodup ∧ (∀ c ∈ s.2.map (·.1), c ∈ U ∧ Hng need S c) ∧ ∀ c, Hng need S c → c ∈ s.2.map (·.1))
    (fun s => s.1.length + 3 * (1000 - s.2.length)) (fun s hI => ?_) _ ?_ ⟨List.nodup_nil, (fun _ m => nomatch m), fun c m => ⟨hS c m, .base m⟩, fun c m => .inl m, (fun _ m => nomatch m), by show S.length + 3 * (1000 - 0) ≤ 3900; omega⟩
  · obtain ⟨wt, fnd⟩ := s
    obtain ⟨h1, h2, h3, h4, h5, h6⟩ := hI
    simp only at h1 h2 h3 h4 h5 h6
    have fl : fnd.length ≤ 1000 := by
      have := nodup_le h1 (fun c m => (h2 c m).1)
      rw [List.length_map] at this
      omega
    refine Ok.guard (okEq_of (okPr _) rfl) ?_
    rcases List.eq_nil_or_concat wt with rfl | ⟨pre, c, rfl⟩
    · refine Ok.iteF rfl (Ok.pure (.inr ⟨_, rfl, h1, h2, fun c hc => ?_⟩))
      induction hc with
      | base m => exact (h4 _ m).elim (fun z => nomatch z) id
      | step _ m ih => exact (h5 _ ih _ m).elim (fun z => nomatch z) id
    · rw [List.concat_eq_append] at *
      have mc : c ∈ pre ++ [c] := List.mem_append_right _ List.mem_cons_self
      have lw : (pre ++ [c]).length = pre.length + 1 := by rw [List.length_append]; rfl
      refine Ok.iteT (by show (!(eqD (enc (pre ++ [c])) (enc ([] : List Y.D)))) = true; rw [eqPr_nil]; simp) (Ok.bindE popE_last ?_)
      by_cases hc : c ∈ fnd.map (·.1)
      · refine Ok.iteF (by show (hasA fnd c != true) = false; rw [hasA_iff.mpr hc]; rfl) (Ok.pure (.inl ⟨_, rfl, ⟨h1, h2, fun d m => h3 d (List.mem_append_left _ m), fun d m => ?_, fun d m e me => ?_, by show pre.length + 3 * (1000 - fnd.length) ≤ 3900; omega⟩, by show pre.length + 3 * (1000 - fnd.length) < (pre ++ [c]).length + 3 * (1000 - fnd.length); omega⟩))
        · rcases h4 d m with z | z
          · rcases List.mem_append.mp z with z | z
            · exact .inl z
            · rw [List.mem_singleton.mp z]; exact .inr hc
          · exact .inr z
        · rcases h5 d m e me with z | z
          · rcases List.mem_append.mp z with z | z
            · exact .inl z
            · rw [List.mem_singleton.mp z]; exact .inr hc
          · exact .inr z
      · have hf : hasA fnd c = false := by
          cases e : hasA fnd c with
          | false => rfl
          | true => exact absurd (hasA_iff.mp e) hc
        obtain ⟨n1, n2, n3⟩ := hn c (h3 c mc).1
        have nd2 : ((fnd ++ [(c, true)]).map (·.1)).Nodup := by
          rw [List.map_append]
          exact List.nodup_append.mpr ⟨h1, by simp, fun a ma b mb e => hc (by have e2 : b = c := List.mem_singleton.mp mb; rw [← e2, ← e]; exact ma)⟩
        have hU2 : ∀ d ∈ (fnd ++ [(c, true)]).map (·.1), d ∈ U ∧ Hng need S d := fun d m => by
          rw [List.map_append] at m
          rcases List.mem_append.mp m with m | m
          · exact h2 d m
          · rw [List.mem_singleton.mp m]; exact h3 c mc
        have fl2 : fnd.length + 1 ≤ 1000 := by
          have := nodup_le nd2 (fun c m => (hU2 c m).1)
          rw [List.length_map, List.length_append] at this
          simp only [List.length_cons, List.length_nil] at this
          omega
        refine Ok.iteT (by show (hasA fnd c != true) = true; rw [hf]; rfl) (Ok.guard (by show fnd.length < _; omega) (Ok.bindE n1 (Ok.guard (by show pre.length + _ ≤ _; omega) (Ok.pure (.inl ⟨_, rfl, ⟨?_, ?_, fun d m => ?_, fun d m => ?_, fun d m e me => ?_, ?_⟩, ?_⟩)))))
        · show ((putA fnd c true).map (·.1)).Nodup; rw [putA_new hc]; exact nd2
        · show ∀ d ∈ (putA fnd c true).map (·.1), _; rw [putA_new hc]; exact hU2
        · rcases List.mem_append.mp m with m | m
          · exact h3 d (List.mem_append_left _ m)
          · exact ⟨n3 d m, .step (h3 c mc).2 m⟩
        · show d ∈ pre ++ need c ∨ d ∈ (putA fnd c true).map (·.1)
          rw [putA_new hc, List.map_append]
          rcases h4 d m with z | z
          · rcases List.mem_append.mp z with z | z
            · exact .inl (List.mem_append_left _ z)
            · exact .inr (List.mem_append_right _ z)
          · exact .inr (List.mem_append_left _ z)
        · show e ∈ pre ++ need c ∨ e ∈ (putA fnd c true).map (·.1)
          have m : d ∈ (putA fnd c true).map (·.1) := m
          rw [putA_new hc, List.map_append] at m ⊢
          rcases List.mem_append.mp m with m | m
          · rcases h5 d m e me with z | z
            · rcases List.mem_append.mp z with z | z
              · exact .inl (List.mem_append_left _ z)
              · exact .inr (List.mem_append_right _ z)
            · exact .inr (List.mem_append_left _ z)
          · have e1 : d = c := List.mem_singleton.mp m
            rw [e1] at me
            exact .inl (List.mem_append_right _ me)
        · show (pre ++ need c).length + 3 * (1000 - (putA fnd c true).length) ≤ 3900
          rw [putA_new hc, List.length_append, List.length_append]
          simp only [List.length_cons, List.length_nil]
          omega
        · show (pre ++ need c).length + 3 * (1000 - (putA fnd c true).length) < (pre ++ [c]).length + 3 * (1000 - fnd.length)
          rw [putA_new hc, List.length_append, List.length_append, lw]
          simp only [List.length_cons, List.length_nil]
          omega
  · show S.length + 3 * (1000 - 0) < 4000
    omega
theorem hung_ok {leaves : List (Int × K_Leaf)} {need : Cl → List Cl} {U S : List Cl} (hU : U.length ≤ 1000) (hS : ∀ c ∈ S, c ∈ U) (hSl : S.length ≤ 900) (hn : ∀ c ∈ U, m_needs_of leaves c = .ok (need c) ∧ (need c).length ≤ 2 ∧ ∀ d ∈ need c, d ∈ U) :
    Ok (m_hung leaves S) fun r => (r.map (·.1)).Nodup ∧ (∀ c, c ∈ r.map (·.1) ↔ Hng need S c) ∧ ∀ c ∈ r.map (·.1), c ∈ U := by
  unfold m_hung
  refine Ok.bind (hungW_ok hU hS hSl hn) ?_
  rintro _ ⟨⟨wt, fnd⟩, rfl, h1, h2, h3⟩
  exact Ok.pure ⟨h1, fun c => ⟨fun m => (h2 c m).2, h3 c⟩, fun c m => (h2 c m).1⟩
theorem Is.guard' {α : Type} {m x : Res α} {p : Prop} [Decidable p] (hp : p) (h : m = x) : guardR p m = x := by unfold guardR; rw [if_pos hp]; exact h
def cellsN (w : Int) (ns : List Int) : List Cl := ns.flatMap fun n => (rngI 0 w).map fun c => ((n, c) : Cl)
def dctL (ls : List Lf) (k : Nat) : List (Int × K_Leaf) := (ls.take k).mapIdx fun i l => ((i : Int), leafL l)
theorem dctL_get {ls : List Lf} {k i : Nat} {l : Lf} (hi : ls[i]? = some l) (hk : i < k) : getA (dctL ls k) (i : Int) = some (leafL l) := by
  have : ∀ (xs : List Lf) (o j : Nat) (x : Lf), xs[j]? = some x → getA (xs.mapIdx fun i l => (((i + o : Nat) : Int), leafL l)) ((j + o : Nat) : Int) = some (leafL x) := by
    intro xs
    induction xs with
    | nil => intro o j x h; simp at h
    | cons y ys ih =>
      intro o j x h
      rw [List.mapIdx_cons]
      cases j with
      | zero =>
        cases h
        exact getA_pos (p := (((0 + o : Nat) : Int), leafL y)) rfl
      | succ j =>
        rw [getA_neg (p := (((0 + o : Nat) : Int), leafL y)) (show ¬ ((0 + o : Nat) : Int) = ((j + 1 + o : Nat) : Int) by omega)]
        have := ih (o + 1) j x (by simpa using h)
        rw [show j + 1 + o = j + (o + 1) by omega]
        refine Eq.trans ?_ this
        congr 1
        refine congrArg (fun f => List.mapIdx f ys) ?_
        funext i l
        rw [show i + 1 + o = i + (o + 1) by omega]
  have h2 := this (ls.take k) 0 i l (by rw [List.getElem?_take_of_lt hk]; exact hi)
  exact h2
def ndR : K_Rule → List Cl
  | .Plain _ => []
  | .Moved b c _ => [(b, c)]
  | .Mixed b c b2 c2 => [(b, c), (b2, c2)]
def ndC (ls : List Lf) (c : Cl) : List Cl := match ls[c.1.toNat]? with
  | some l => (ndR (ruleAt l c.2.toNat)).map fun (q : Cl) => ((c.1 - q.1, q.2) : Cl)
  | none => []
theorem ndC_m {ls : List Lf} {k i c w : Nat} {l : Lf} (hi : ls[i]? = some l) (hk : i < k) (hg : goodL l) (hf : fitsL i w l = true) (hc : c < w) (hw : w ≤ 16) : m_needs_of (dctL ls k) ((i : Int), (c : Int)) = .ok (ndC ls ((i : Int), (c : Int))) := by
  have e : ndC ls ((i : Int), (c : Int)) = (ndR (ruleAt l c)).map fun (q : Cl) => (((i : Int) - q.1, q.2) : Cl) := by
    show (match ls[((i : Int)).toNat]? with | some l => (ndR (ruleAt l ((c : Int)).toNat)).map fun (q : Cl) => (((i : Int) - q.1, q.2) : Cl) | none => []) = _
    rw [Int.toNat_natCast, Int.toNat_natCast, hi]
  rw [e]
  unfold m_needs_of
  show (if (isNonD (enc (getA (dctL ls k) (i : Int)))) = true then _ else (someR (getA (dctL ls k) (i : Int))).bind _) = _
  rw [dctL_get hi hk]
  refine Is.iteF (by cases l <;> rfl) (Is.bind (a := leafL l) rfl (Is.bind (a := ruleAt l c) (by
    show (m_Leaf__rule (leafL l) (enc (c : Int))).noErr = _
    rw [(ruleAt_ok hg hf hc hw).1]
    rfl) ?_))
  cases ruleAt l c <;> rfl
def allC (k w : Nat) : List Cl := (List.range k).flatMap fun (i : Nat) => (List.range w).map fun (c : Nat) => (((i : Int), (c : Int)) : Cl)
theorem mem_allC {k w : Nat} {x : Cl} : x ∈ allC k w ↔ ∃ i c : Nat, i < k ∧ c < w ∧ x = ((i : Int), (c : Int)) := by
  unfold allC
  rw [List.mem_flatMap]
  constructor
  · rintro ⟨i, mi, m⟩
    obtain ⟨c, mc, rfl⟩ := List.mem_map.mp m
    exact ⟨i, c, List.mem_range.mp mi, List.mem_range.mp mc, rfl⟩
  · rintro ⟨i, c, hi, hc, rfl⟩
    exact ⟨i, List.mem_range.mpr hi, List.mem_map.mpr ⟨c, List.mem_range.mpr hc, rfl⟩⟩
theorem allC_len (k w : Nat) : (allC k w).length = k * w := by
  unfold allC
  induction k with
  | zero => rw [Nat.zero_mul]; rfl
  | succ k ih => rw [List.range_succ, List.flatMap_append, List.length_append, ih]; simp [Nat.succ_mul]
theorem closed {ls : List Lf} {k w : Nat} (hk : k ≤ ls.length) (hw : w ≤ 16) (fit : ∀ (i : Nat) l, ls[i]? = some l → goodL l ∧ fitsL i w l = true) : ∀ x ∈ allC k w, m_needs_of (dctL ls k) x = .ok (ndC ls x) ∧ (ndC ls x).length ≤ 2 ∧ ∀ d ∈ ndC ls x, d ∈ allC k w := fun x m => by
  obtain ⟨i, c, hi, hc, rfl⟩ := mem_allC.mp m
  obtain ⟨l, el⟩ : ∃ l, ls[i]? = some l := ⟨_, List.getElem?_eq_getElem (show i < ls.length by omega)⟩
  obtain ⟨gl, fl⟩ := fit i l el
  obtain ⟨_, gr, fr⟩ := ruleAt_ok gl fl hc hw
  have e : ndC ls ((i : Int), (c : Int)) = (ndR (ruleAt l c)).map fun (q : Cl) => (((i : Int) - q.1, q.2) : Cl) := by
    show (match ls[((i : Int)).toNat]? with | some l => (ndR (ruleAt l ((c : Int)).toNat)).map fun (q : Cl) => (((i : Int) - q.1, q.2) : Cl) | none => []) = _
    rw [Int.toNat_natCast, Int.toNat_natCast, el]
  refine ⟨ndC_m el hi gl fl hc hw, ?_, ?_⟩
  · rw [e, List.length_map]
    cases ruleAt l c <;> simp [ndR]
  · rw [e]
    intro d md
    obtain ⟨q, mq, rfl⟩ := List.mem_map.mp md
    have hq : 1 ≤ q.1 ∧ q.1 ≤ (i : Int) ∧ 0 ≤ q.2 ∧ q.2 < (w : Int) := by
      revert gr fr mq
      cases ruleAt l c with
      | Plain v => intro _ _ mq; exact nomatch mq
      | Moved b c2 a =>
        intro gr fr mq
        have fr : (decide (b ≤ (i : Int)) && decide (c2 < (w : Int))) = true := fr
        rw [Bool.and_eq_true, decide_eq_true_iff, decide_eq_true_iff] at fr
        rw [List.mem_singleton.mp mq]
        exact ⟨gr.1.1, fr.1, gr.2.1.1, fr.2⟩
      | Mixed b c2 b3 c3 =>
        intro gr fr mq
        have fr : ((decide (b ≤ (i : Int)) && decide (c2 < (w : Int))) && (decide (b3 ≤ (i : Int)) && decide (c3 < (w : Int)))) = true := fr
        rw [Bool.and_eq_true, Bool.and_eq_true, Bool.and_eq_true, decide_eq_true_iff, decide_eq_true_iff, decide_eq_true_iff, decide_eq_true_iff] at fr
        rcases List.mem_cons.mp mq with e | mq
        · rw [e]; exact ⟨gr.1.1, fr.1.1, gr.2.1.1, fr.1.2⟩
        · rw [List.mem_singleton.mp mq]; exact ⟨gr.2.2.1.1, fr.2.1, gr.2.2.2.1, fr.2.2⟩
    exact mem_allC.mpr ⟨((i : Int) - q.1).toNat, q.2.toNat, by omega, by omega, Prod.ext (by show (i : Int) - q.1 = _; omega) (by show q.2 = _; omega)⟩
section
variable {need : Cl → List Cl} {S U : List Cl} {c d s : Cl}
theorem Hng.inU (hS : ∀ c ∈ S, c ∈ U) (hU : ∀ c ∈ U, ∀ d ∈ need c, d ∈ U) (h : Hng need S c) : c ∈ U := by
  induction h with
  | base m => exact hS _ m
  | step _ m ih => exact hU _ ih _ m
theorem Hng.from : Hng need S c ↔ ∃ s, s ∈ S ∧ Hng need [s] c := by
  constructor
  · intro h
    induction h with
    | base m => exact ⟨_, m, .base List.mem_cons_self⟩
    | step _ m ih => obtain ⟨s, ms, hs⟩ := ih; exact ⟨s, ms, .step hs m⟩
  · rintro ⟨s, ms, h⟩
    induction h with
    | base m => rw [List.mem_singleton.mp m]; exact .base ms
    | step _ m ih => exact .step ih m
theorem Hng.one : Hng need [s] c ↔ c = s ∨ ∃ d, d ∈ need s ∧ Hng need [d] c := by
  constructor
  · intro h
    induction h with
    | base m => exact .inl (List.mem_singleton.mp m)
    | step _ m ih =>
      rcases ih with rfl | ⟨d, md, hd⟩
      · exact .inr ⟨_, m, .base List.mem_cons_self⟩
      · exact .inr ⟨d, md, .step hd m⟩
  · rintro (rfl | ⟨d, md, h⟩)
    · exact .base List.mem_cons_self
    · induction h with
      | base m => rw [List.mem_singleton.mp m]; exact .step (.base List.mem_cons_self) md
      | step _ m ih => exact .step ih m
end
structure LeastB (ls : List Lf) (k : Nat) (S : Nat → Prop) (v : Int) : Prop where
  has : ∃ o l, o < k ∧ ls[o]? = some l ∧ S o ∧ v = bgL l
  le : ∀ o l, o < k → ls[o]? = some l → S o → v ≤ bgL l
section
variable {ls : List Lf} {k a : Nat} {S S' : Nat → Prop} {v v' : Int} {l : Lf}
theorem LeastB.uniq (h : LeastB ls k S v) (h' : LeastB ls k S v') : v = v' := by
  obtain ⟨o, l, a, b, c, d⟩ := h.has
  obtain ⟨o', l', a', b', c', d'⟩ := h'.has
  have := h.le o' l' a' b' c'
  have := h'.le o l a b c
  omega
theorem LeastB.congr (h : LeastB ls k S v) (e : ∀ o, o < k → (S o ↔ S' o)) : LeastB ls k S' v :=
  ⟨by obtain ⟨o, l, a, b, c, d⟩ := h.has; exact ⟨o, l, a, b, (e o a).mp c, d⟩, fun o l a b c => h.le o l a b ((e o a).mpr c)⟩
theorem LeastB.add (h : LeastB ls k S v) (ha : a < k) (e : ls[a]? = some l) : LeastB ls k (fun o => S o ∨ o = a) (minI v (bgL l)) := by
  refine ⟨?_, ?_⟩
  · by_cases c : v ≤ bgL l
    · obtain ⟨o, m, h1, h2, h3, h4⟩ := h.has
      exact ⟨o, m, h1, h2, .inl h3, by unfold minI; grind⟩
    · exact ⟨a, l, ha, e, .inr rfl, by unfold minI; grind⟩
  · rintro o m h1 h2 (h3 | rfl)
    · have := h.le o m h1 h2 h3
      unfold minI; grind
    · have : m = l := Option.some.inj (h2.symm.trans e)
      subst this
      unfold minI; grind
theorem LeastB.ext (h : LeastB ls k S v) (n : ¬ S k) : LeastB ls (k + 1) S v := by
  refine ⟨?_, fun o l a b c => ?_⟩
  · obtain ⟨o, l, a, b, c, d⟩ := h.has
    exact ⟨o, l, by omega, b, c, d⟩
  · by_cases e : o = k
    · subst e; exact absurd c n
    · exact h.le o l (by omega) b c
theorem LeastB.more (h : LeastB ls k S v) (e : ls[k]? = some l) (s : S k) : LeastB ls (k + 1) S (minI v (bgL l)) := by
  have h0 : LeastB ls (k + 1) (fun o => S o ∧ o < k) v := ⟨by obtain ⟨o, l, a, b, c, d⟩ := h.has; exact ⟨o, l, by omega, b, ⟨c, a⟩, d⟩, fun o l _ b c => h.le o l c.2 b c.1⟩
  refine (h0.add (a := k) (by omega) e).congr fun o ho => ⟨?_, fun z => ?_⟩
  · rintro (z | rfl)
    · exact z.1
    · exact s
  · by_cases c : o = k
    · exact .inr c
    · exact .inl ⟨z, by omega⟩
theorem LeastB.first (e : ls[k]? = some l) (s : S k) (n : ∀ o, o < k → ¬ S o) : LeastB ls (k + 1) S (bgL l) := by
  refine ⟨⟨k, l, by omega, e, s, rfl⟩, fun o m a b c => ?_⟩
  by_cases d : o = k
  · subst d
    rw [Option.some.inj (b.symm.trans e)]; exact Int.le_refl _
  · exact absurd c (n o (by omega))
end
theorem Ok.forIx {α S R : Type} {l : List α} {f : α → S → Res (Fl S R)} (I : Nat → S → Prop) (hf : ∀ (i : Nat) x s, l[i]? = some x → I i s → Ok (f x s) fun r => ∃ s', r = .nx s' ∧ I (i + 1) s') {s : S} (h : I 0 s) : Ok (forR l s f) fun r => ∃ s', r = .nx s' ∧ I l.length s' := by
  have go : ∀ k i s, i + k = l.length → I i s → Ok (forR (l.drop i) s f) fun r => ∃ s', r = .nx s' ∧ I l.length s' := by
    intro k
    induction k with
    | zero =>
      intro i s hi h
      rw [List.drop_eq_nil_of_le (by omega)]
      exact ⟨_, rfl, s, rfl, by rw [show l.length = i by omega]; exact h⟩
    | succ k ih =>
      intro i s hi h
      have hlt : i < l.length := by omega
      rw [List.drop_eq_getElem_cons hlt]
      refine Ok.bind (hf i _ s (List.getElem?_eq_getElem hlt) h) ?_
      rintro r ⟨s', rfl, h'⟩
      exact ih (i + 1) s' (by omega) h'
  have := go l.length 0 s (by omega) h
  rwa [List.drop_zero] at this
theorem ndC_eq {ls : List Lf} {i c : Nat} {l : Lf} (hi : ls[i]? = some l) : ndC ls ((i : Int), (c : Int)) = (ndR (ruleAt l c)).map fun (q : Cl) => (((i : Int) - q.1, q.2) : Cl) := by
  show (match ls[((i : Int)).toNat]? with | some l => (ndR (ruleAt l ((c : Int)).toNat)).map fun (q : Cl) => (((i : Int) - q.1, q.2) : Cl) | none => []) = _
  rw [Int.toNat_natCast, Int.toNat_natCast, hi]
theorem for_all {α R : Type} {l : List α} {f : α → Unit → Res (Fl Unit R)} (h : ∀ x ∈ l, f x () = .ok (.nx ())) : forR l () f = .ok (.nx ()) := by
  induction l with
  | nil => rfl
  | cons x l ih =>
    show Res.bind (f x ()) _ = _
    rw [h x List.mem_cons_self]
    exact ih fun y m => h y (List.mem_cons_of_mem _ m)
theorem forRng2 {S R : Type} {f : Int → S → Res (Fl S R)} {lo hi : Int} (I : Nat → S → Prop) (hf : ∀ (i : Nat) s, lo + (i : Int) < hi → I i s → Ok (f (lo + (i : Int)) s) fun r => ∃ s', r = .nx s' ∧ I (i + 1) s') {s : S} (h : I 0 s) : Ok (forR (rngI lo hi) s f) fun r => ∃ s', r = .nx s' ∧ I (hi - lo).toNat s' := by
  have hL : (rngI lo hi).length = (hi - lo).toNat := by unfold rngI; simp
  have go : ∀ k i s, i + k = (hi - lo).toNat → I i s → Ok (forR ((rngI lo hi).drop i) s f) fun r => ∃ s', r = .nx s' ∧ I (hi - lo).toNat s' := by
    intro k
    induction k with
    | zero =>
      intro i s hi' h
      rw [List.drop_eq_nil_of_le (by rw [hL]; omega)]
      exact ⟨_, rfl, s, rfl, by rw [show (hi - lo).toNat = i by omega]; exact h⟩
    | succ k ih =>
      intro i s hi' h
      have hlt : i < (rngI lo hi).length := by rw [hL]; omega
      rw [List.drop_eq_getElem_cons hlt]
      have e : (rngI lo hi)[i] = lo + (i : Int) := by
        have := List.getElem?_eq_getElem hlt
        rw [rngI_get (by omega)] at this
        exact (Option.some.inj this).symm
      rw [e]
      refine Ok.bind (hf i s (by omega) h) ?_
      rintro r ⟨s', rfl, h'⟩
      exact ih (i + 1) s' (by omega) h'
  have := go (hi - lo).toNat 0 s (by omega) h
  rwa [List.drop_zero] at this
theorem chain_ok {st : List Int} (h : st.length = 3) : Ok (l_chain st) fun r => (∃ ls : List Lf, r.1 = ls.map dL ∧ ls.length = 200 ∧ (∀ (i : Nat) l, ls[i]? = some l → goodL l ∧ fitsL i 1 l = true) ∧ ls.Pairwise Apart) ∧ r.2.length = 3 := by
  unfold l_chain
  refine dw h (by decide) (by decide) fun x1 s1 a1 b1 h1 => Ok.bind (forRng2 (lo := 1) (hi := 200) (fun i (q : List Int × List D) => q.1.length = 3 ∧ ∃ ls : List Lf, q.2 = ls.map dL ∧ ls.length = i + 1 ∧ (∀ (k : Nat) l, ls[k]? = some l → (goodL l ∧ fitsL k 1 l = true) ∧ bgL l = k ∧ spL l = 1) ∧ ls.Pairwise Apart) (fun i q hi hq => ?_) ⟨h1, [.full 0 1 [x1]], rfl, rfl, fun k l e => ?_, List.pairwise_singleton ..⟩) ?_
  · obtain ⟨sq, ds⟩ := q
    obtain ⟨q1, ls, q2, q3, q4, q5⟩ := hq
    simp only at q1 q2
    subst q2
    refine dw q1 (by decide) (by decide) fun x2 s2 a2 b2 h2 => ?_
    refine Ok.bind (φ := fun r => (∃ q, r.1 = .tup (rowR q) ∧ goodR q ∧ fitsR ((i : Int) + 1) 1 q = true) ∧ r.2.length = 3) ?_ ?_
    · refine Ok.ite (fun c => dw h2 (by decide) (by decide) fun x3 s3 a3 b3 h3 => Ok.ite (fun _ => ?_) fun _ => ?_) fun _ => ?_
      · have c' : 1 < 1 + (i : Int) := of_decide_eq_true c
        refine Ok.pure ⟨⟨.Mixed 1 0 2 0, rfl, ⟨by decide, by decide, by decide, by decide⟩, ?_⟩, h3⟩
        show ((decide ((1 : Int) ≤ (i : Int) + 1) && decide ((0 : Int) < 1)) && (decide ((2 : Int) ≤ (i : Int) + 1) && decide ((0 : Int) < 1))) = true
        rw [decide_eq_true (by omega), decide_eq_true (show (2 : Int) ≤ (i : Int) + 1 by omega)]; rfl
      · refine Ok.pure ⟨⟨.Moved 1 0 x2, rfl, ⟨by decide, by decide, a2, by omega⟩, ?_⟩, h3⟩
        show (decide ((1 : Int) ≤ (i : Int) + 1) && decide ((0 : Int) < 1)) = true
        rw [decide_eq_true (by omega)]; rfl
      · refine Ok.pure ⟨⟨.Moved 1 0 x2, rfl, ⟨by decide, by decide, a2, by omega⟩, ?_⟩, h2⟩
        show (decide ((1 : Int) ≤ (i : Int) + 1) && decide ((0 : Int) < 1)) = true
        rw [decide_eq_true (by omega)]; rfl
    · rintro ⟨_, s3⟩ ⟨⟨q, rfl, g1, g2⟩, h3⟩
      refine Ok.guard (by simp only [List.length_map]; omega) (Ok.pure ⟨_, rfl, h3, ls ++ [.woven (1 + (i : Int)) 1 [q]], by rw [List.map_append]; rfl, by rw [List.length_append, q3]; rfl, fun k l' e => ?_, ?_⟩)
      · rcases Nat.lt_or_ge k ls.length with c | c
        · rw [List.getElem?_append_left c] at e
          exact q4 k l' e
        · rw [List.getElem?_append_right c] at e
          have hk : k - ls.length = 0 := by
            cases q : k - ls.length with
            | zero => rfl
            | succ j => rw [q] at e; simp at e
          rw [hk] at e
          cases e
          have hk' : (k : Int) = (i : Int) + 1 := by omega
          refine ⟨⟨⟨⟨⟨by omega, by omega⟩, by decide, by decide⟩, fun r m => by rw [List.mem_singleton.mp m]; exact g1, by show 1 ≤ 1; decide, by show 1 ≤ 16; decide⟩, ?_⟩, by show 1 + (i : Int) = k; omega, rfl⟩
          show (decide ((1 : Int) = 1) && ([q].all (fitsR k 1))) = true
          rw [hk']
          simp [g2]
      · refine List.pairwise_append.mpr ⟨q5, List.pairwise_singleton .., fun o mo y my => ?_⟩
        rw [List.mem_singleton.mp my]
        obtain ⟨k, hk⟩ := List.getElem?_of_mem mo
        have := (q4 k o hk).2
        have := (List.getElem?_eq_some_iff.mp hk).1
        left
        show bgL o + spL o ≤ 1 + (i : Int)
        omega
  · cases k with
    | zero =>
      cases e
      exact ⟨⟨⟨by decide, fun v m => by rw [List.mem_singleton.mp m]; exact ⟨a1, by omega⟩, by show 1 ≤ 1; decide, by show 1 ≤ 16; decide⟩, rfl⟩, rfl, rfl⟩
    | succ k => simp at e
  · rintro _ ⟨⟨sq, ds⟩, rfl, q1, ls, q2, q3, q4, q5⟩
    exact Ok.pure ⟨⟨ls, q2, q3, fun k l e => (q4 k l e).1, q5⟩, q1⟩
theorem Hng.split {need : Cl → List Cl} {S : List Cl} {c : Cl} : Hng need S c ↔ ∃ s ∈ S, Hng need [s] c := by
  constructor
  · intro h
    induction h with
    | base m => exact ⟨_, m, .base List.mem_cons_self⟩
    | step _ m ih => obtain ⟨s, ms, hs⟩ := ih; exact ⟨s, ms, .step hs m⟩
  · rintro ⟨s, ms, h⟩
    induction h with
    | base m => rw [List.mem_singleton.mp m]; exact .base ms
    | step _ m ih => exact .step ih m
theorem Hng.sub {need : Cl → List Cl} {S T : List Cl} (h : ∀ c ∈ S, c ∈ T) {c : Cl} (hc : Hng need S c) : Hng need T c := by
  induction hc with
  | base m => exact .base (h _ m)
  | step _ m ih => exact .step ih m
theorem mem_cellsN {w : Int} {ns : List Int} {c : Cl} : c ∈ cellsN w ns ↔ c.1 ∈ ns ∧ 0 ≤ c.2 ∧ c.2 < w := by
  unfold cellsN
  rw [List.mem_flatMap]
  constructor
  · rintro ⟨n, mn, m⟩
    obtain ⟨x, mx, rfl⟩ := List.mem_map.mp m
    exact ⟨mn, mem_rng mx⟩
  · rintro ⟨m, h0, h1⟩
    exact ⟨c.1, m, List.mem_map.mpr ⟨c.2, rng_mem h0 h1, rfl⟩⟩
theorem cellsN_len {w : Int} {ns : List Int} : (cellsN w ns).length = ns.length * w.toNat := by
  unfold cellsN
  induction ns with
  | nil => simp
  | cons n ns ih => rw [List.flatMap_cons, List.length_append, ih, List.length_map, rngI_len, List.length_cons, Nat.succ_mul]; simp; omega
theorem inD_ints (n : Int) : ∀ l : List Int, inD (enc n) (l.map enc) = decide (n ∈ l)
  | [] => rfl
  | i :: l => by
    show ((i == n) || inD (enc n) (l.map enc)) = _
    rw [inD_ints n l]
    by_cases e : i = n
    · subst e; simp
    · have e2 : ¬ n = i := fun z => e z.symm
      simp [e, e2]
theorem okIn (n : Int) (l : List Int) : okEq (enc n) (.lst (l.map enc)) := okEq_of rfl (eqOk_ints l 19)
structure Clo (nd : Cl → Res (List Cl)) (need : Cl → List Cl) (U : List Cl) : Prop where
  few : U.length ≤ 1000
  ok : ∀ c ∈ U, nd c = .ok (need c) ∧ (need c).length ≤ 2 ∧ ∀ d ∈ need c, d ∈ U
def lfA (ls : List Lf) (n : Int) : Lf := (ls[n.toNat]?).getD (.full 0 1 [])
def ndQ (ls : List Lf) (came : List Int) (c : Cl) : List Cl := if c.1 ∈ came then ndC ls c else []
structure Cm (ls : List Lf) (came : List Int) : Prop where
  pw : came.Pairwise (· < ·)
  rg : ∀ n ∈ came, 0 ≤ n ∧ n < (ls.length : Int)
theorem Cm.nodup {ls : List Lf} {came : List Int} (h : Cm ls came) : came.Nodup := h.pw.imp fun {a b} (x : a < b) => by omega
theorem merge_new {α : Type} : ∀ {kvs acc : List (Int × α)}, ((acc ++ kvs).map (·.1)).Nodup → mergeA acc kvs = acc ++ kvs
  | [], acc, _ => by rw [List.append_nil]; rfl
  | x :: kvs, acc, h => by
    have e : putA acc x.1 x.2 = acc ++ [x] := by
      unfold putA
      rw [if_neg]
      intro z
      obtain ⟨y, m, q⟩ := List.any_eq_true.mp z
      rw [List.map_append] at h
      exact (List.nodup_append.mp h).2.2 y.1 (List.mem_map.mpr ⟨y, m, rfl⟩) x.1 (List.mem_cons_self) (of_decide_eq_true q)
    show mergeA (putA acc x.1 x.2) kvs = _
    rw [e, merge_new (by rw [List.append_assoc]; exact h), List.append_assoc]
    rfl
def cU (ls : List Lf) (w : Nat) : List Cl := allC (ls.length + 10) w ++ cellsN (w : Int) [199]
theorem cU_len {ls : List Lf} {w : Nat} : (cU ls w).length = (ls.length + 11) * w := by
  unfold cU
  rw [List.length_append, allC_len, cellsN_len, Int.toNat_natCast]
  simp only [List.length_cons, List.length_nil]
  rw [← Nat.add_mul]
theorem allC_mono {j k w : Nat} (h : j ≤ k) {c : Cl} (m : c ∈ allC j w) : c ∈ allC k w := by
  obtain ⟨i, x, h1, h2, rfl⟩ := mem_allC.mp m
  exact mem_allC.mpr ⟨i, x, by omega, h2, rfl⟩
theorem comp_sub {α S : Type} {f : α → S → Res (Option α × S)} {l : List α} {s : S} (hl : l.length ≤ 1000000) (I : S → Prop) (hf : ∀ x s, x ∈ l → I s → Ok (f x s) fun r => I r.2 ∧ (r.1 = some x ∨ r.1 = none)) (h : I s) : Ok (compR l s f) fun r => I r.2 ∧ r.1.Sublist l := by
  refine Ok.guard hl ?_
  clear hl
  induction l generalizing s with
  | nil => exact ⟨_, rfl, h, List.Sublist.refl _⟩
  | cons x xs ih =>
    refine Ok.bind (hf x s List.mem_cons_self h) ?_
    rintro ⟨b, s'⟩ ⟨h', hb⟩
    refine Ok.bind (ih (fun y s m h => hf y s (List.mem_cons_of_mem _ m) h) h') ?_
    rintro ⟨bs, s2⟩ ⟨h2, g2⟩
    rcases hb with rfl | rfl
    · exact ⟨_, rfl, h2, g2.cons₂ x⟩
    · exact ⟨_, rfl, h2, g2.cons x⟩
theorem rng_pw (n : Int) : (rngI 0 n).Pairwise (· < ·) := by
  rw [List.pairwise_iff_getElem]
  intro i j hi hj hij
  have e1 := rngI_get (lo := 0) (hi := n) (i := i) (by rw [rngI_len] at hi; omega)
  have e2 := rngI_get (lo := 0) (hi := n) (i := j) (by rw [rngI_len] at hj; omega)
  rw [List.getElem?_eq_getElem hi] at e1
  rw [List.getElem?_eq_getElem hj] at e2
  rw [Option.some.inj e1, Option.some.inj e2]
  omega
theorem cm_sub {ls : List Lf} {came : List Int} {n : Int} (hn : n = (ls.length : Int)) (h : came.Sublist (rngI 0 n)) : Cm ls came := ⟨(rng_pw n).sublist h, fun x m => by
  have := mem_rng (h.subset m)
  omega⟩
theorem whole_i (i : Int) : l_whole (.int i) = .ok true := by
  unfold l_whole
  exact Is.iteT (by decide +kernel : isS "int" "int" = true) (congrArg Res.ok (by decide +kernel : (!(isS "int" "bool")) = true))
theorem row_same (l : List Int) : okEq (enc l) (enc l) ∧ eqD (enc l) (enc l) = true := ⟨okEq_of (eqOk_ints l 19) (eqOk_ints l 19), eqD_refl (eqOk_flat _ 20 (show eqOk 20 (enc l) = true from eqOk_ints l 19)).1⟩
theorem getA_put {κ α : Type} [DecidableEq κ] {k k' : κ} {v : α} : ∀ {l : List (κ × α)}, getA (putA l k v) k' = if k = k' then some v else getA l k' := by
  intro l
  have go : ∀ l : List (κ × α), getA (l.map fun kv => if kv.1 = k then (kv.1, v) else kv) k' = if k = k' then (if (l.any fun kv => decide (kv.1 = k)) = true then some v else none) else getA l k' := by
    intro l
    induction l with
    | nil => by_cases e : k = k' <;> simp [getA, e]
    | cons x l ih =>
      unfold getA at ih ⊢
      rw [List.map_cons, List.find?_cons, List.find?_cons, List.any_cons]
      by_cases c : x.1 = k
      · rw [if_pos c]
        by_cases e : k = k'
        · simp [c, e]
        · have : ¬ x.1 = k' := fun z => e (c ▸ z)
          simp only [this, decide_false, if_neg e] at ih ⊢
          exact ih
      · rw [if_neg c]
        by_cases d : x.1 = k'
        · have e : ¬ k = k' := fun z => c (d.trans z.symm)
          simp [d, e]
        · simp only [d, c, decide_false, Bool.false_or] at ih ⊢
          exact ih
  unfold putA
  by_cases c : (l.any fun kv => decide (kv.1 = k)) = true
  · rw [if_pos c, go l]
    by_cases e : k = k'
    · rw [if_pos e, if_pos e, if_pos c]
    · rw [if_neg e, if_neg e]
  · rw [if_neg c]
    have no : l.find? (fun kv => decide (kv.1 = k)) = none := by
      rw [List.find?_eq_none]
      intro x m z
      exact c (List.any_eq_true.mpr ⟨x, m, z⟩)
    unfold getA
    rw [List.find?_append]
    by_cases e : k = k'
    · subst e
      rw [if_pos rfl, no]
      simp
    · rw [if_neg e]
      have : ([(k, v)] : List (κ × α)).find? (fun kv => decide (kv.1 = k')) = none := by simp [e]
      rw [this, Option.or_none]
theorem nd_pos {r : K_Rule} (g : goodR r) : ∀ q ∈ ndR r, 1 ≤ q.1 := fun q m => by
  cases r with
  | Plain v => exact nomatch m
  | Moved b c a => rw [List.mem_singleton.mp m]; exact g.1.1
  | Mixed b c b2 c2 =>
    rcases List.mem_cons.mp m with rfl | m
    · exact g.1.1
    · rw [List.mem_singleton.mp m]; exact g.2.2.1.1
theorem Hng.head {need : Cl → List Cl} {c e : Cl} (h : Hng need [c] e) : e = c ∨ ∃ d ∈ need c, Hng need [d] e := by
  induction h with
  | base m => exact .inl (List.mem_singleton.mp m)
  | @step a b _ m ih =>
    rcases ih with rfl | ⟨d, md, hd⟩
    · exact .inr ⟨b, m, .base List.mem_cons_self⟩
    · exact .inr ⟨d, md, .step hd m⟩
structure Hd (ls : List Lf) (h : List (Int × K_Leaf)) : Prop where
  nd : (h.map (·.1)).Nodup
  ok : ∀ p ∈ h, (0 ≤ p.1 ∧ p.1 < (ls.length : Int)) ∧ p.2 = leafL (lfA ls p.1)
def cameH (h : List (Int × K_Leaf)) : List Int := sortI (h.map (·.1))
theorem mem_came {h : List (Int × K_Leaf)} {n : Int} : n ∈ cameH h ↔ n ∈ h.map (·.1) := (sortI_perm _).mem_iff
theorem get_mem {h : List (Int × K_Leaf)} {n : Int} {v : K_Leaf} (e : getA h n = some v) : (n, v) ∈ h := by
  unfold getA at e
  obtain ⟨p, hp, rfl⟩ := Option.map_eq_some_iff.mp e
  have m := List.mem_of_find?_eq_some hp
  have q := List.find?_some hp
  have q : p.1 = n := of_decide_eq_true q
  rw [← q]
  exact m
theorem get_some {h : List (Int × K_Leaf)} {n : Int} (m : n ∈ h.map (·.1)) : ∃ v, getA h n = some v := by
  obtain ⟨p, mp, e⟩ := List.mem_map.mp m
  cases c : h.find? (fun kv => decide (kv.1 = n)) with
  | some q => exact ⟨q.2, by unfold getA; rw [c]; rfl⟩
  | none =>
    have := List.find?_eq_none.mp c p mp
    simp at this
    exact absurd e this
theorem Hd.get {ls : List Lf} {h : List (Int × K_Leaf)} (H : Hd ls h) {n : Int} : getA h n = if n ∈ cameH h then some (leafL (lfA ls n)) else none := by
  by_cases c : n ∈ cameH h
  · rw [if_pos c]
    obtain ⟨v, e⟩ := get_some (mem_came.mp c)
    rw [e]
    exact congrArg some (H.ok _ (get_mem e)).2
  · rw [if_neg c]
    cases e : getA h n with
    | none => rfl
    | some v => exact absurd (mem_came.mpr (List.mem_map.mpr ⟨_, get_mem e, rfl⟩)) c
theorem Hd.cm {ls : List Lf} {h : List (Int × K_Leaf)} (H : Hd ls h) : Cm ls (cameH h) := ⟨pw_lt (sortI_pw _) ((sortI_perm _).nodup_iff.mpr H.nd), fun n m => by
  obtain ⟨p, mp, rfl⟩ := List.mem_map.mp (mem_came.mp m)
  exact (H.ok p mp).1⟩
structure St (ls : List Lf) (h : List (Int × K_Leaf)) (w : Nat) : Prop where
  fit : ∀ (i : Nat) l, ls[i]? = some l → goodL l ∧ fitsL i w l = true
  hd : Hd ls h
  w0 : 1 ≤ w
  w1 : w ≤ 16
  few : (ls.length + 11) * w ≤ 1000
  many : ls.length ≤ 200
section
variable {ls : List Lf} {h : List (Int × K_Leaf)} {w : Nat}
theorem St.at (S : St ls h w) {c : Cl} (m : c ∈ cU ls w) (hc : c.1 ∈ cameH h) : ∃ (i x : Nat) (l : Lf), c = ((i : Int), (x : Int)) ∧ i < ls.length ∧ x < w ∧ ls[i]? = some l ∧ goodL l ∧ fitsL i w l = true := by
  obtain ⟨r0, r1⟩ := S.hd.cm.rg _ hc
  have hx : 0 ≤ c.2 ∧ c.2 < (w : Int) := by
    rcases List.mem_append.mp m with m | m
    · obtain ⟨i, x, h1, h2, rfl⟩ := mem_allC.mp m
      exact ⟨by show 0 ≤ (x : Int); omega, by show (x : Int) < w; omega⟩
    · exact (mem_cellsN.mp m).2
  have hi : c.1.toNat < ls.length := by omega
  obtain ⟨g, f⟩ := S.fit _ _ (List.getElem?_eq_getElem hi)
  exact ⟨c.1.toNat, c.2.toNat, _, Prod.ext (by show c.1 = _; omega) (by show c.2 = _; omega), hi, by omega, List.getElem?_eq_getElem hi, g, f⟩
theorem St.need (S : St ls h w) {c : Cl} (m : c ∈ cU ls w) : (ndQ ls (cameH h) c).length ≤ 2 ∧ ∀ d ∈ ndQ ls (cameH h) c, d ∈ cU ls w := by
  unfold ndQ
  by_cases hc : c.1 ∈ cameH h
  · rw [if_pos hc]
    obtain ⟨i, x, l, rfl, hi, hx, _⟩ := S.at m hc
    obtain ⟨_, a, b⟩ := closed (Nat.le_refl _) S.w1 S.fit _ (mem_allC.mpr ⟨i, x, hi, hx, rfl⟩)
    exact ⟨a, fun d md => List.mem_append_left _ (allC_mono (by omega) (b d md))⟩
  · rw [if_neg hc]
    exact ⟨Nat.zero_le _, fun d md => nomatch md⟩
theorem St.prog (S : St ls h w) : Clo (m_needs_of h) (ndQ ls (cameH h)) (cU ls w) := ⟨by rw [cU_len]; exact S.few, fun c m => by
  refine ⟨?_, S.need m⟩
  unfold ndQ
  by_cases hc : c.1 ∈ cameH h
  · rw [if_pos hc]
    obtain ⟨i, x, l, rfl, hi, hx, el, _⟩ := S.at m hc
    obtain ⟨a, _⟩ := closed (Nat.le_refl _) S.w1 S.fit _ (mem_allC.mpr ⟨i, x, hi, hx, rfl⟩)
    rw [← a]
    have hc : (i : Int) ∈ cameH h := hc
    have e : getA h (i : Int) = getA (dctL ls ls.length) (i : Int) := by
      rw [S.hd.get, if_pos hc, dctL_get el hi]
      unfold lfA
      rw [Int.toNat_natCast, el]
      rfl
    unfold m_needs_of
    show (if (isNonD (enc (getA h (i : Int)))) = true then _ else (someR (getA h (i : Int))).bind _) = _
    rw [e]
  · rw [if_neg hc]
    unfold m_needs_of
    refine Is.iteT ?_ rfl
    show isNonD (enc (getA h c.1)) = true
    rw [S.hd.get, if_neg hc]
    rfl⟩
end
def Kn (ls : List Lf) (came : List Int) (c : Cl) : Prop := ∀ d, Hng (ndQ ls came) [c] d → d.1 ∈ came
theorem kn_iff {ls : List Lf} {came : List Int} {c : Cl} : Kn ls came c ↔ c.1 ∈ came ∧ ∀ d ∈ ndC ls c, Kn ls came d := by
  constructor
  · intro k
    have hc := k c (.base List.mem_cons_self)
    refine ⟨hc, fun d md e he => k e ?_⟩
    have st : Hng (ndQ ls came) [c] d := .step (.base List.mem_cons_self) (by unfold ndQ; rw [if_pos hc]; exact md)
    clear k md
    induction he with
    | base m => rw [List.mem_singleton.mp m]; exact st
    | step _ m ih => exact .step ih m
  · rintro ⟨hc, k⟩ e he
    rcases he.head with rfl | ⟨d, md, hd⟩
    · exact hc
    · unfold ndQ at md
      rw [if_pos hc] at md
      exact k d md e hd
def vl (ls : List Lf) (w : Nat) (c : Cl) : Int := atN (picsT w ls ls.length) c.1.toNat c.2.toNat
def rv (f : Cl → Int) : K_Rule → Int
  | .Plain v => v
  | .Moved b c a => (f (b, c) + a) % 256
  | .Mixed b c b2 c2 => (f (b, c) + f (b2, c2)) / 2
theorem rvalue_m (f : Cl → Int) (r : K_Rule) : m_Rule__value r ((ndR r).map f) = .ok (rv f r) := by
  cases r with
  | Plain v => rfl
  | Moved b c a => rfl
  | Mixed b c b2 c2 =>
    show Res.ok (([f (b, c), f (b2, c2)] : List Int).sum / 2) = _
    simp [rv]
section
variable {ls : List Lf} {w : Nat}
theorem vl_rule (ok : OkL w ls) {i x : Nat} {l : Lf} (hl : ls[i]? = some l) (hx : x < w) : vl ls w ((i : Int), (x : Int)) = rv (fun q => vl ls w ((i : Int) - q.1, q.2)) (ruleAt l x) := by
  have hi := (List.getElem?_eq_some_iff.mp hl).1
  obtain ⟨g1, g2⟩ := ok.fit i l hl
  obtain ⟨_, r2, r3⟩ := ruleAt_ok g1 g2 hx ok.wide
  have e0 : vl ls w ((i : Int), (x : Int)) = valR i (picsT w ls ls.length) (ruleAt l x) := by
    unfold vl
    show atN _ ((i : Int)).toNat ((x : Int)).toNat = _
    rw [Int.toNat_natCast, Int.toNat_natCast, ← val_ext (pn := picsT w ls i) (pm := picsT w ls ls.length) r2 r3 fun j hj => by
      have e := picsT_take (w := w) (ls := ls) (n := ls.length) (i := i) (by omega) (Nat.le_refl _)
      rw [← e, List.getElem?_take_of_lt hj]]
    unfold atN
    rw [picsT_at hl hi (Nat.le_refl _)]
    show (picL w l i (picsT w ls i)).getD x 0 = _
    unfold picL
    rw [List.getD_eq_getElem?_getD, List.getElem?_map, List.getElem?_range hx]
    rfl
  rw [e0]
  have one : ∀ b c : Int, 1 ≤ b → atN (picsT w ls ls.length) (i - b.toNat) c.toNat = vl ls w ((i : Int) - b, c) := fun b c hb => by
    unfold vl
    show _ = atN _ ((i : Int) - b).toNat c.toNat
    rw [show ((i : Int) - b).toNat = i - b.toNat by omega]
  generalize ruleAt l x = r at r2 r3
  cases r with
  | Plain v => rfl
  | Moved b c a =>
    show (atN _ (i - b.toNat) c.toNat + a) % 256 = _
    rw [one b c r2.1.1]
    rfl
  | Mixed b c b2 c2 =>
    show (atN _ (i - b.toNat) c.toNat + atN _ (i - b2.toNat) c2.toNat) / 2 = _
    rw [one b c r2.1.1, one b2 c2 r2.2.2.1.1]
    rfl
end
open Classical in
noncomputable def kv (ls : List Lf) (w : Nat) (came : List Int) (c : Cl) : Option Int := if Kn ls came c then some (vl ls w c) else none
theorem memI_putA {α : Type} {h : List (Int × α)} {k : Int} {v : α} {p : Int × α} (m : p ∈ putA h k v) : (p ∈ h ∧ p.1 ≠ k) ∨ p = (k, v) := by
  unfold putA at m
  by_cases c : (h.any fun kv => decide (kv.1 = k)) = true
  · rw [if_pos c] at m
    obtain ⟨q, mq, e⟩ := List.mem_map.mp m
    by_cases d : q.1 = k
    · rw [if_pos d] at e
      exact .inr (by rw [← e, d])
    · rw [if_neg d] at e
      subst e
      exact .inl ⟨mq, d⟩
  · rw [if_neg c] at m
    rcases List.mem_append.mp m with m | m
    · refine .inl ⟨m, fun e => c (List.any_eq_true.mpr ⟨p, m, decide_eq_true e⟩)⟩
    · exact .inr (List.mem_singleton.mp m)
theorem nd_putA {α : Type} {h : List (Int × α)} {k : Int} {v : α} (n : (h.map (·.1)).Nodup) : ((putA h k v).map (·.1)).Nodup := by
  unfold putA
  by_cases c : (h.any fun kv => decide (kv.1 = k)) = true
  · rw [if_pos c, List.map_map]
    have e : h.map ((·.1) ∘ fun kv : Int × α => if kv.1 = k then (kv.1, v) else kv) = h.map (·.1) := List.map_congr_left fun p _ => by
      show (if p.1 = k then (p.1, v) else p).1 = p.1
      split <;> rfl
    rw [e]
    exact n
  · rw [if_neg c, List.map_append]
    refine List.nodup_append.mpr ⟨n, by simp, fun a ma b mb e => ?_⟩
    rw [List.mem_singleton.mp mb] at e
    obtain ⟨p, mp, rfl⟩ := List.mem_map.mp ma
    exact c (List.any_eq_true.mpr ⟨p, mp, decide_eq_true e⟩)
theorem getT_put {α : Type} {l : List (Cl × α)} {k d : Cl} {v : α} : getA (putA l k v) d = if k = d then some v else getA l d := getA_put
section
variable {ls : List Lf} {h : List (Int × K_Leaf)} {w : Nat}
theorem values_m (S : St ls h w) {r : List (Cl × Bool)} (nd : (r.map (·.1)).Nodup) (rU : ∀ c ∈ r.map (·.1), c ∈ cU ls w) (rC : ∀ c ∈ r.map (·.1), c.1 ∈ cameH h) (rN : ∀ c ∈ r.map (·.1), ∀ d ∈ ndC ls c, d ∈ r.map (·.1)) (ok : OkL w ls) :
    Ok (m_values_of h r) fun f => ∀ c ∈ r.map (·.1), getA f c = some (vl ls w c) := by
  have sp := sortP_perm (r.map (·.1))
  have sw := sortP_pw (r.map (·.1))
  have sm : ∀ c, c ∈ sortP (r.map (·.1)) ↔ c ∈ r.map (·.1) := fun c => sp.mem_iff
  have sn : (sortP (r.map (·.1))).Nodup := sp.nodup_iff.mpr nd
  have sl : (sortP (r.map (·.1))).length ≤ 1000 := by
    rw [sp.length_eq]
    exact Nat.le_trans (nodup_le nd rU) S.prog.few
  unfold m_values_of
  generalize sortP (r.map (·.1)) = L at sw sm sn sl
  refine Ok.bind (Ok.forIx (l := L) (fun i (s : List (Cl × Int)) => s.length ≤ i ∧ ∀ d ∈ L.take i, getA s d = some (vl ls w d)) (fun i x s hx hI => ?_) ⟨Nat.le_refl _, fun d m => by simp at m⟩) ?_
  · obtain ⟨i1, i2⟩ := hI
    have mx := List.mem_of_getElem? hx
    have hi := (List.getElem?_eq_some_iff.mp hx).1
    have mr := (sm x).mp mx
    have hc := rC x mr
    obtain ⟨n1, _, _⟩ := S.prog.ok x (rU x mr)
    obtain ⟨j, y, l, rfl, hj, hy, hl, gl, fl⟩ := S.at (rU x mr) hc
    have hc : (j : Int) ∈ cameH h := hc
    obtain ⟨r1, r2, r3⟩ := ruleAt_ok gl fl hy S.w1
    have eN : ndQ ls (cameH h) ((j : Int), (y : Int)) = ndC ls ((j : Int), (y : Int)) := if_pos hc
    rw [eN] at n1
    have ahead : ∀ d ∈ ndC ls ((j : Int), (y : Int)), getA s d = some (vl ls w d) := fun d md => by
      have dL := (sm d).mpr (rN _ mr d md)
      have lt : d.1 < (j : Int) := by
        rw [ndC_eq hl] at md
        obtain ⟨q, mq, rfl⟩ := List.mem_map.mp md
        have := nd_pos r2 q mq
        show (j : Int) - q.1 < j
        omega
      refine i2 d ?_
      obtain ⟨k, hk⟩ := List.getElem?_of_mem dL
      have hkl := (List.getElem?_eq_some_iff.mp hk).1
      have ki : k < i := by
        refine Classical.byContradiction fun no => ?_
        by_cases e : k = i
        · subst e
          rw [hx] at hk
          cases hk
          have lt : (j : Int) < j := lt
          omega
        · have := List.pairwise_iff_getElem.mp sw i k hi hkl (by omega)
          rw [(List.getElem?_eq_some_iff.mp hx).2, (List.getElem?_eq_some_iff.mp hk).2, leP_iff] at this
          have : (j : Int) < d.1 ∨ ((j : Int) = d.1 ∧ _) := this
          omega
      exact List.mem_of_getElem? (i := k) (by rw [List.getElem?_take_of_lt ki]; exact hk)
    have eG : getA h (j : Int) = some (leafL l) := by
      rw [S.hd.get, if_pos hc]
      unfold lfA
      rw [Int.toNat_natCast, hl]
      rfl
    refine Ok.bindE n1 (Ok.bindE (a := leafL l) (by show someR (getA h (j : Int)) = _; rw [eG]; rfl) (Ok.bindE (a := ruleAt l y) (by show (m_Leaf__rule (leafL l) (enc (y : Int))).noErr = _; rw [r1]; rfl) ?_))
    rw [compR_map (g := fun d => vl ls w d) (Nat.le_trans (by
      have := (S.need (rU _ mr)).1
      rw [eN] at this
      exact this) (by decide)) (fun d md => by rw [ahead d md]; rfl)]
    have ev : (ndC ls ((j : Int), (y : Int))).map (fun d => vl ls w d) = (ndR (ruleAt l y)).map fun q => vl ls w ((j : Int) - q.1, q.2) := by rw [ndC_eq hl, List.map_map]; rfl
    rw [ev]
    refine Ok.bindE rfl (Ok.bindE (rvalue_m (fun q => vl ls w ((j : Int) - q.1, q.2)) (ruleAt l y)) (Ok.guard (by omega) (Ok.pure ⟨_, rfl, Nat.le_trans putA_len (by omega), fun d md => ?_⟩)))
    rw [getT_put]
    by_cases e : ((j : Int), (y : Int)) = d
    · rw [if_pos e, ← e, vl_rule ok hl hy]
    · rw [if_neg e]
      rw [take_more hx] at md
      rcases List.mem_append.mp md with md | md
      · exact i2 d md
      · exact absurd (List.mem_singleton.mp md).symm e
  · rintro _ ⟨s, rfl, _, i2⟩
    refine Ok.pure fun c m => i2 c ?_
    rw [List.take_length]
    exact (sm c).mpr m
open Classical in
theorem known_m (S : St ls h w) (ok : OkL w ls) {c : Cl} (hc : c ∈ cU ls w) : m_known h c.1 c.2 = .ok (kv ls w (cameH h) c) := by
  have hS : ∀ d ∈ [c], d ∈ cU ls w := fun d m => by rw [List.mem_singleton.mp m]; exact hc
  obtain ⟨r, e, nd, rh, rU⟩ := hung_ok S.prog.few hS (by show 1 ≤ 900; decide) S.prog.ok
  unfold m_known
  refine Is.bind e ?_
  have hl : (r.map (·.1)).length ≤ 1000 := Nat.le_trans (nodup_le nd rU) S.prog.few
  have ha : m_all_came h r = .ok (decide (Kn ls (cameH h) c), r) := by
    unfold m_all_came
    rw [compR_map (g := fun k : Cl => hasA h k.1 != false) (by rw [List.length_map] at hl ⊢; omega) (fun _ _ => rfl)]
    show Res.ok (_, r) = _
    congr 2
    rw [Bool.eq_iff_iff, List.all_eq_true, decide_eq_true_iff]
    have one : ∀ d : Cl, (hasA h d.1 != false) = true ↔ d.1 ∈ cameH h := fun d => by
      unfold hasA
      rw [S.hd.get]
      by_cases m : d.1 ∈ cameH h
      · rw [if_pos m]; simp [m]
      · rw [if_neg m]; simp [m]
    constructor
    · intro z d hd
      exact (one d).mp (z _ (List.mem_map.mpr ⟨d, (rh d).mpr hd, rfl⟩))
    · intro k b m
      obtain ⟨d, md, rfl⟩ := List.mem_map.mp m
      exact (one d).mpr (k d ((rh d).mp md))
  refine Is.bind ha ?_
  unfold kv
  by_cases k : Kn ls (cameH h) c
  · rw [if_pos k]
    obtain ⟨f, ef, hf⟩ := values_m S nd rU (fun d m => k d ((rh d).mp m)) (fun d m e me => (rh e).mpr (by
      have hd := (rh d).mp m
      refine .step hd ?_
      unfold ndQ
      rw [if_pos (k d hd)]
      exact me)) ok
    refine Is.iteT (decide_eq_true k) (Is.bind ef (Is.bind (a := vl ls w c) ?_ rfl))
    show someR (getA f c) = _
    rw [hf c ((rh c).mpr (.base List.mem_cons_self))]
    rfl
  · rw [if_neg k]
    exact Is.iteF (decide_eq_false k) rfl
theorem kv_no {came : List Int} {c : Cl} (h : ¬ Kn ls came c) : kv ls w came c = none := by unfold kv; rw [if_neg h]
end
section
variable {ls : List Lf} {h : List (Int × K_Leaf)} {w : Nat} {came : List Int}
def PrOk (ls : List Lf) (w : Nat) (p : Tp2 Int Int) : Prop := (0 ≤ p.a ∧ p.a ≤ (ls.length : Int) ∨ p.a = 199) ∧ 0 ≤ p.b ∧ p.b < (w : Int)
theorem PrOk.inU {p : Tp2 Int Int} (h : PrOk ls w p) : (p.a, p.b) ∈ cU ls w := by
  obtain ⟨a, b, c⟩ := h
  rcases a with a | a
  · exact List.mem_append_left _ (mem_allC.mpr ⟨p.a.toNat, p.b.toNat, by omega, by omega, Prod.ext (by show p.a = _; omega) (by show p.b = _; omega)⟩)
  · exact List.mem_append_right _ (mem_cellsN.mpr ⟨by rw [a]; exact List.mem_cons_self, b, c⟩)
theorem Hd.len (H : Hd ls h) : h.length ≤ ls.length := by
  have := nodup_le (U := rngI 0 (ls.length : Int)) H.nd fun n m => by
    obtain ⟨p, mp, rfl⟩ := List.mem_map.mp m
    exact rng_mem (H.ok p mp).1.1 (H.ok p mp).1.2
  rw [List.length_map, rngI_len] at this
  omega
theorem St.okL (S : St ls h w) : OkL w ls := ⟨S.fit, S.many, S.w1⟩
end
theorem lfA_at {ls : List Lf} {i : Nat} {l : Lf} (h : ls[i]? = some l) : lfA ls (i : Int) = l := by
  unfold lfA
  rw [Int.toNat_natCast, h]
  rfl
section
variable {ls : List Lf} {h : List (Int × K_Leaf)} {w : Nat}
theorem Cm.hd {came : List Int} (c : Cm ls came) : Hd ls (mergeA [] (prsA (came.map fun n => (⟨n, leafL (lfA ls n)⟩ : Tp2 Int K_Leaf)))) := by
  have e : prsA (came.map fun n => (⟨n, leafL (lfA ls n)⟩ : Tp2 Int K_Leaf)) = came.map fun n => (n, leafL (lfA ls n)) := by unfold prsA; rw [List.map_map]; rfl
  have ek : (came.map fun n => (n, leafL (lfA ls n))).map (·.1) = came := by rw [List.map_map]; exact List.map_id _
  rw [e, merge_new (by rw [List.nil_append, ek]; exact c.nodup), List.nil_append]
  refine ⟨by rw [ek]; exact c.nodup, fun p m => ?_⟩
  obtain ⟨n, mn, rfl⟩ := List.mem_map.mp m
  exact ⟨c.rg n mn, rfl⟩
theorem Hd.del (H : Hd ls h) (k : Int) : Hd ls (delA h k) := ⟨H.nd.sublist ((List.filter_sublist ..).map _), fun p m => H.ok p (List.mem_filter.mp m).1⟩
theorem Hd.put (H : Hd ls h) {i : Nat} {l : Lf} (hl : ls[i]? = some l) : Hd ls (putA h (i : Int) (leafL l)) := ⟨nd_putA H.nd, fun p m => by
  rcases memI_putA m with m | rfl
  · exact H.ok p m.1
  · have := (List.getElem?_eq_some_iff.mp hl).1
    exact ⟨⟨by show 0 ≤ (i : Int); omega, by show (i : Int) < _; omega⟩, by show leafL l = leafL (lfA ls (i : Int)); rw [lfA_at hl]⟩⟩
theorem Hd.turn (H : Hd ls h) {i : Nat} (hi : i < ls.length) (l : Lf) : Hd (ls.set i l) (putA h (i : Int) (leafL l)) := ⟨nd_putA H.nd, fun p m => by
  rcases memI_putA m with ⟨m, ne⟩ | rfl
  · obtain ⟨a, b⟩ := H.ok p m
    refine ⟨by rw [List.length_set]; exact a, ?_⟩
    rw [b]
    unfold lfA
    rw [List.getElem?_set_ne (by omega)]
  · refine ⟨by rw [List.length_set]; exact ⟨by show 0 ≤ (i : Int); omega, by show (i : Int) < _; omega⟩, ?_⟩
    show leafL l = leafL (lfA (ls.set i l) (i : Int))
    rw [lfA_at (List.getElem?_set_self hi)]⟩
theorem fit_set (fit : ∀ (i : Nat) l, ls[i]? = some l → goodL l ∧ fitsL i w l = true) {i : Nat} {l : Lf} (g : goodL l) (f : fitsL i w l = true) : ∀ (j : Nat) o, (ls.set i l)[j]? = some o → goodL o ∧ fitsL j w o = true := fun j o e => by
  by_cases c : i = j
  · subst c
    have hi := (List.getElem?_eq_some_iff.mp e).1
    rw [List.length_set] at hi
    rw [List.getElem?_set_self hi] at e
    cases e
    exact ⟨g, f⟩
  · rw [List.getElem?_set_ne c] at e
    exact fit j o e
theorem St.turn (S : St ls h w) {i : Nat} (hi : i < ls.length) {l : Lf} (g : goodL l) (f : fitsL i w l = true) : St (ls.set i l) (putA h (i : Int) (leafL l)) w := ⟨fit_set S.fit g f, S.hd.turn hi l, S.w0, S.w1, by rw [List.length_set]; exact S.few, by rw [List.length_set]; exact S.many⟩
end
section
variable {ls : List Lf} {h : List (Int × K_Leaf)} {w : Nat}
theorem hasA_came (S : St ls h w) {n : Int} : hasA h n = decide (n ∈ cameH h) := by
  unfold hasA
  rw [S.hd.get]
  by_cases m : n ∈ cameH h
  · rw [if_pos m, decide_eq_true m]; rfl
  · rw [if_neg m, decide_eq_false m]; rfl
theorem allcame_m (S : St ls h w) {r : List (Cl × Bool)} {c : Cl} (hl : r.length ≤ 1000000) (rh : ∀ d, d ∈ r.map (·.1) ↔ Hng (ndQ ls (cameH h)) [c] d) : ∃ b : Bool, m_all_came h r = .ok (b, r) ∧ (b = true ↔ Kn ls (cameH h) c) := by
  refine ⟨(r.map (·.1)).all fun k => hasA h k.1 != false, ?_, ?_⟩
  · unfold m_all_came
    rw [compR_map (g := fun k : Cl => hasA h k.1 != false) (by rw [List.length_map]; exact hl) (fun _ _ => rfl)]
    show Res.ok (_, r) = _
    rw [List.all_map]
    rfl
  · rw [List.all_eq_true]
    have one : ∀ d : Cl, (hasA h d.1 != false) = true ↔ d.1 ∈ cameH h := fun d => by
      rw [hasA_came S]
      by_cases m : d.1 ∈ cameH h <;> simp [m]
    exact ⟨fun z d hd => (one d).mp (z d ((rh d).mpr hd)), fun k d m => (one d).mpr (k d ((rh d).mp m))⟩
structure Tbl (need : Cl → List Cl) (c : Cl) (L : List Cl) : Prop where
  pw : L.Pairwise fun a b => leP a b = true
  nd : L.Nodup
  mem : ∀ d, d ∈ L ↔ Hng need [c] d
  few : L.length ≤ 1000
theorem table_yes (S : St ls h w) (ok : OkL w ls) {c : Cl} (hc : c ∈ cU ls w) (k : Kn ls (cameH h) c) : ∃ L, m_table h c.1 c.2 = .ok (L.map fun d => (⟨d.1, d.2, vl ls w d⟩ : Tp3 Int Int Int)) ∧ Tbl (ndQ ls (cameH h)) c L := by
  have hS : ∀ d ∈ [c], d ∈ cU ls w := fun d m => by rw [List.mem_singleton.mp m]; exact hc
  obtain ⟨r, e, nd, rh, rU⟩ := hung_ok S.prog.few hS (by show 1 ≤ 900; decide) S.prog.ok
  have hl : (r.map (·.1)).length ≤ 1000 := Nat.le_trans (nodup_le nd rU) S.prog.few
  obtain ⟨b, eb, hb⟩ := allcame_m S (by rw [List.length_map] at hl; omega) rh
  have hb := hb.mpr k
  subst hb
  obtain ⟨f, ef, hf⟩ := values_m S nd rU (fun d m => k d ((rh d).mp m)) (fun d m e me => (rh e).mpr (by
    have hd := (rh d).mp m
    refine .step hd ?_
    unfold ndQ
    rw [if_pos (k d hd)]
    exact me)) ok
  have sp := sortP_perm (r.map (·.1))
  refine ⟨sortP (r.map (·.1)), ?_, sortP_pw _, sp.nodup_iff.mpr nd, fun d => (sp.mem_iff).trans (rh d), by rw [sp.length_eq]; exact hl⟩
  unfold m_table
  refine Is.bind (a := r) (by show (m_hung h [c]).noErr = _; rw [e]; rfl) (Is.bind (a := (true, r)) (by rw [eb]; rfl) (Is.iteT rfl (Is.bind (a := f) (by show (m_values_of h r).noErr = _; rw [ef]; rfl) ?_)))
  show ((compR (sortP (r.map (·.1))) () _).bind _) = _
  rw [compR_map (g := fun d : Cl => (⟨d.1, d.2, vl ls w d⟩ : Tp3 Int Int Int)) (by rw [sp.length_eq]; omega) fun d md => by
    show (someR (getA f d)).bind _ = _
    rw [hf d (sp.mem_iff.mp md)]
    rfl]
  rfl
structure Way (ls : List Lf) (came : List Int) (c : Cl) (W : List Cl) : Prop where
  hd : W[0]? = some c
  st : ∀ (i : Nat) a b, W[i]? = some a → W[i + 1]? = some b → a.1 ∈ came ∧ b ∈ ndC ls a
  la : ∀ a, W.getLast? = some a → a.1 ∉ came
theorem comp_filter {α : Type} {f : α → Unit → Res (Option α × Unit)} {c : α → Bool} {l : List α} (hl : l.length ≤ 1000000) (hf : ∀ x ∈ l, f x () = .ok (if c x = true then some x else none, ())) : compR l () f = .ok (l.filter c, ()) := by
  unfold compR guardR
  rw [if_pos hl]
  clear hl
  induction l with
  | nil => rfl
  | cons x xs ih =>
    unfold compL
    rw [hf x List.mem_cons_self]
    have ih := ih fun y m => hf y (List.mem_cons_of_mem _ m)
    by_cases c1 : c x = true
    · rw [if_pos c1, List.filter_cons_of_pos c1]
      show (compL xs () f).bind _ = _
      rw [ih]
      rfl
    · rw [if_neg c1, List.filter_cons_of_neg c1]
      show (compL xs () f).bind _ = _
      rw [ih]
      rfl
theorem hasA_put {s : List (Cl × Bool)} {k d : Cl} : hasA (putA s k true) d = true ↔ k = d ∨ hasA s d = true := by
  unfold hasA
  rw [getA_put]
  by_cases e : k = d
  · rw [if_pos e]; simp [e]
  · rw [if_neg e]; simp [e]
theorem nd_lower {i x : Nat} {l : Lf} (S : St ls h w) (hl : ls[i]? = some l) (hx : x < w) : ∀ d ∈ ndC ls ((i : Int), (x : Int)), d.1 < (i : Int) := fun d md => by
  obtain ⟨gl, fl⟩ := S.fit i l hl
  obtain ⟨_, r2, _⟩ := ruleAt_ok gl fl hx S.w1
  rw [ndC_eq hl] at md
  obtain ⟨q, mq, rfl⟩ := List.mem_map.mp md
  have := nd_pos r2 q mq
  show (i : Int) - q.1 < i
  omega
theorem cU_pos {c : Cl} (m : c ∈ cU ls w) : 0 ≤ c.1 ∧ (c.1 ≤ (ls.length : Int) + 9 ∨ c.1 = 199) := by
  rcases List.mem_append.mp m with m | m
  · obtain ⟨i, x, h1, h2, rfl⟩ := mem_allC.mp m
    exact ⟨by show 0 ≤ (i : Int); omega, .inl (by show (i : Int) ≤ _; omega)⟩
  · have := List.mem_singleton.mp (mem_cellsN.mp m).1
    omega
theorem way_m (S : St ls h w) {c : Cl} (no : ¬ Kn ls (cameH h) c) {r : List (Cl × Bool)} (nd : (r.map (·.1)).Nodup) (rh : ∀ d, d ∈ r.map (·.1) ↔ Hng (ndQ ls (cameH h)) [c] d) (rU : ∀ d ∈ r.map (·.1), d ∈ cU ls w) : Ok (m_way_out h c r) (Way ls (cameH h) c) := by
  have many := S.many
  have sp := sortP_perm (r.map (·.1))
  have sw := sortP_pw (r.map (·.1))
  have sm : ∀ d, d ∈ sortP (r.map (·.1)) ↔ d ∈ r.map (·.1) := fun d => sp.mem_iff
  have sl : (sortP (r.map (·.1))).length ≤ 1000 := by
    rw [sp.length_eq]
    exact Nat.le_trans (nodup_le nd rU) S.prog.few
  unfold m_way_out
  generalize sortP (r.map (·.1)) = L at sw sm sl
  have inN : ∀ d ∈ L, d.1 ∈ cameH h → ∀ e ∈ ndC ls d, e ∈ L ∧ e.1 < d.1 := fun d md hd e me => by
    have mr := (sm d).mp md
    obtain ⟨i, x, l, rfl, hi, hx, hl, _, _⟩ := S.at (rU d mr) hd
    refine ⟨(sm e).mpr ((rh e).mpr (.step ((rh _).mp mr) (by unfold ndQ; rw [if_pos hd]; exact me))), nd_lower S hl hx e me⟩
  refine Ok.bind (Ok.forIx (l := L) (fun i (s : List (Cl × Bool)) => s.length ≤ i ∧ ∀ d, hasA s d = true ↔ d ∈ L.take i ∧ ¬ Kn ls (cameH h) d) (fun i x s hx hI => ?_) ⟨Nat.le_refl _, fun d => ⟨(fun z => absurd z (by show ¬ (false = true); decide)), (fun z => absurd z.1 (by simp))⟩⟩) ?_
  · obtain ⟨i1, i2⟩ := hI
    have mx := List.mem_of_getElem? hx
    have hi := (List.getElem?_eq_some_iff.mp hx).1
    have mr := (sm x).mp mx
    obtain ⟨n1, n2, _⟩ := S.prog.ok x (rU x mr)
    have ahead : ∀ d ∈ L, d.1 < x.1 → d ∈ L.take i := fun d md lt => by
      obtain ⟨k, hk⟩ := List.getElem?_of_mem md
      have hkl := (List.getElem?_eq_some_iff.mp hk).1
      have ki : k < i := by
        refine Classical.byContradiction fun no => ?_
        by_cases e : k = i
        · subst e
          rw [hx] at hk
          cases hk
          omega
        · have := List.pairwise_iff_getElem.mp sw i k hi hkl (by omega)
          rw [(List.getElem?_eq_some_iff.mp hx).2, (List.getElem?_eq_some_iff.mp hk).2, leP_iff] at this
          omega
      exact List.mem_of_getElem? (i := k) (by rw [List.getElem?_take_of_lt ki]; exact hk)
    refine Ok.bind (φ := fun b => b = true ↔ ¬ Kn ls (cameH h) x) ?_ fun b hb => ?_
    · by_cases hc : x.1 ∈ cameH h
      · refine Ok.iteF (by show (hasA h x.1 != true) = false; rw [hasA_came S, decide_eq_true hc]; rfl) (Ok.bindE n1 ?_)
        rw [compR_map (g := fun d => hasA s d != false) (by omega) (fun _ _ => rfl)]
        refine Ok.bindE rfl (Ok.pure ?_)
        have eN : ndQ ls (cameH h) x = ndC ls x := if_pos hc
        rw [eN, List.any_map, List.any_eq_true, kn_iff]
        constructor
        · rintro ⟨d, md, hd⟩ ⟨_, k⟩
          have hd : (hasA s d != false) = true := hd
          exact ((i2 d).mp (by simpa using hd)).2 (k d md)
        · intro z
          refine Classical.byContradiction fun no => z ⟨hc, fun d md => Classical.byContradiction fun nk => no ⟨d, md, ?_⟩⟩
          show (hasA s d != false) = true
          obtain ⟨dL, lt⟩ := inN x mx hc d md
          rw [(i2 d).mpr ⟨ahead d dL lt, nk⟩]
          rfl
      · refine Ok.iteT (by show (hasA h x.1 != true) = true; rw [hasA_came S, decide_eq_false hc]; rfl) (Ok.pure ⟨fun _ k => hc (kn_iff.mp k).1, fun _ => rfl⟩)
    · have tk := take_more hx
      refine Ok.ite (fun c1 => Ok.guard (by omega) (Ok.pure ⟨_, rfl, Nat.le_trans putA_len (by omega), fun d => ?_⟩)) fun c1 => Ok.pure ⟨_, rfl, by omega, fun d => ?_⟩
      · rw [hasA_put, i2, tk, List.mem_append, List.mem_singleton]
        constructor
        · rintro (e | ⟨a, b⟩)
          · exact ⟨.inr e.symm, by rw [← e]; exact hb.mp c1⟩
          · exact ⟨.inl a, b⟩
        · rintro ⟨a | a, b⟩
          · exact .inr ⟨a, b⟩
          · exact .inl a.symm
      · rw [i2, tk, List.mem_append, List.mem_singleton]
        constructor
        · rintro ⟨a, b⟩; exact ⟨.inl a, b⟩
        · rintro ⟨a | a, b⟩
          · exact ⟨a, b⟩
          · subst a
            rw [hb.mpr b] at c1
            exact nomatch c1
  rintro _ ⟨lk, rfl, _, k2⟩
  rw [List.take_length] at k2
  have hcL : c ∈ L := (sm c).mpr ((rh c).mpr (.base List.mem_cons_self))
  have c0 := cU_pos (rU c ((sm c).mp hcL))
  show Ok ((whileR 4000 [c] _).bind _) _
  refine Ok.bind (Ok.while (fun W : List Cl => ∃ pre d, W = pre ++ [d] ∧ W[0]? = some c ∧ (∀ (i : Nat) a b, W[i]? = some a → W[i + 1]? = some b → a.1 ∈ cameH h ∧ b ∈ ndC ls a) ∧ d ∈ L ∧ ¬ Kn ls (cameH h) d ∧ W.length + d.1.toNat ≤ 300) (Way ls (cameH h) c) (fun W => 400 - W.length) (fun W hI => ?_) _ ?_ ⟨[], c, rfl, rfl, fun i a b _ e => by simp at e, hcL, no, by show 1 + c.1.toNat ≤ 300; omega⟩) ?_
  · obtain ⟨pre, d, rfl, w0, ws, dL, nk, wl⟩ := hI
    have eL : (pre ++ [d]).length = pre.length + 1 := by rw [List.length_append]; rfl
    have d0 := cU_pos (rU d ((sm d).mp dL))
    refine Ok.bindE ix_last ?_
    by_cases hc : d.1 ∈ cameH h
    · obtain ⟨n1, n2, _⟩ := S.prog.ok d (rU d ((sm d).mp dL))
      have eN : ndQ ls (cameH h) d = ndC ls d := if_pos hc
      rw [eN] at n1 n2
      refine Ok.iteT (by show (hasA h d.1 != false) = true; rw [hasA_came S, decide_eq_true hc]; rfl) (Ok.bindE ix_last (Ok.bindE n1 ?_))
      rw [comp_filter (c := fun e => hasA lk e != false) (by omega) fun x _ => by cases (hasA lk x != false) <;> rfl]
      have ne : (ndC ls d).filter (fun e => hasA lk e != false) ≠ [] := by
        intro z
        rw [List.filter_eq_nil_iff] at z
        refine nk (kn_iff.mpr ⟨hc, fun e me => Classical.byContradiction fun ne => z e me ?_⟩)
        show (hasA lk e != false) = true
        rw [(k2 e).mpr ⟨(inN d dL hc e me).1, ne⟩]
        rfl
      have mem : ∀ e ∈ (ndC ls d).filter (fun e => hasA lk e != false), e ∈ ndC ls d ∧ ¬ Kn ls (cameH h) e := fun e me => by
        obtain ⟨a, b⟩ := List.mem_filter.mp me
        exact ⟨a, ((k2 e).mp (by simpa using b)).2⟩
      generalize (ndC ls d).filter (fun e => hasA lk e != false) = acc at ne mem
      refine Ok.bindE rfl ?_
      cases acc with
      | nil => exact absurd rfl ne
      | cons e acc =>
        obtain ⟨e1, e2⟩ := mem e List.mem_cons_self
        obtain ⟨eL', lt⟩ := inN d dL hc e e1
        have e0 := cU_pos (rU e ((sm e).mp eL'))
        refine Ok.bindE (a := e) (ix_at (Int.le_refl 0) rfl) (Ok.guard (by omega) (Ok.pure (.inl ⟨_, rfl, ⟨pre ++ [d], e, rfl, ?_, fun i a b ha hb => ?_, eL', e2, by rw [List.length_append]; show _ + 1 + _ ≤ 300; omega⟩, by rw [List.length_append]; show 400 - (_ + 1) < 400 - _; omega⟩)))
        · rw [List.getElem?_append_left (by omega)]
          exact w0
        · by_cases q : i + 1 < (pre ++ [d]).length
          · rw [List.getElem?_append_left (by omega)] at ha
            rw [List.getElem?_append_left q] at hb
            exact ws i a b ha hb
          · have hi := (List.getElem?_eq_some_iff.mp hb).1
            rw [List.length_append] at hi
            have hi : i + 1 < (pre ++ [d]).length + 1 := hi
            have ei : i = pre.length := by omega
            subst ei
            rw [List.getElem?_append_right (by omega), eL] at hb
            simp at hb
            rw [List.getElem?_append_left (by omega)] at ha
            simp at ha
            rw [← ha, ← hb]
            exact ⟨hc, e1⟩
    · refine Ok.iteF (by show (hasA h d.1 != false) = false; rw [hasA_came S, decide_eq_false hc]; rfl) (Ok.pure (.inr ⟨_, rfl, w0, ws, fun a ha => ?_⟩))
      rw [List.getLast?_append] at ha
      simp at ha
      rw [← ha]
      exact hc
  · show 400 - 1 < 4000
    decide
  · rintro _ ⟨W, rfl, hW⟩
    exact Ok.pure hW
end
theorem Ok.whileX {S R : Type} {f : S → Res (Fl S R)} (I : S → Prop) (Q : S → Prop) (T : R → Prop) (μ : S → Nat) (hf : ∀ s, I s → Ok (f s) fun r => (∃ s', r = .nx s' ∧ I s' ∧ μ s' < μ s) ∨ (∃ s', r = .bk s' ∧ Q s') ∨ ∃ v, r = .rt v ∧ T v) : ∀ (n : Nat) {s : S}, μ s < n → I s → Ok (whileR n s f) fun r => (∃ s', r = .bk s' ∧ Q s') ∨ ∃ v, r = .rt v ∧ T v
  | 0, s, h, _ => absurd h (Nat.not_lt_zero _)
  | n + 1, s, h, hI => by
    refine Ok.bind (hf s hI) ?_
    rintro r (⟨s', rfl, h', hm⟩ | ⟨s', rfl, q⟩ | ⟨v, rfl, q⟩)
    · exact Ok.whileX I Q T μ hf n (by omega) h'
    · exact Ok.pure (.inl ⟨s', rfl, q⟩)
    · exact Ok.pure (.inr ⟨v, rfl, q⟩)
theorem hungX_ok {nd : Cl → Res (List Cl)} {need : Cl → List Cl} {came : List Int} {U S : List Cl} (hU : U.length ≤ 1000) (hS : ∀ c ∈ S, c ∈ U) (hSl : S.length ≤ 900) (hn : ∀ c ∈ U, c.1 ∈ came → nd c = .ok (need c) ∧ (need c).length ≤ 2 ∧ ∀ d ∈ need c, d ∈ U) :
    Ok (whileR 4000 ((S, ([] : List (Cl × Bool))) : List Cl × List (Cl × Bool)) (fun a29 : List Cl × List (Cl × Bool) => guardR (okEq (enc a29.1) (enc ([] : List Y.D))) <| (if (!(eqD (enc a29.1) (enc ([] : List Y.D)))) = true then (popE a29.1).bind fun x45 => guardR (okEq (enc (x45.1.1 : Int)) (.lst (came.map enc))) <| (if (!(inD (enc (x45.1.1 : Int)) (came.map enc))) = true then .ok (.rt false) else (if (hasA a29.2 x45.1 != true) = true then guardR (a29.2.length < 1000000) <| (nd x45.1).bind fun x52 => guardR (x45.2.length + x52.length ≤ 1000000) <| .ok (.nx ((x45.2 ++ x52), (putA a29.2 x45.1 (true : Bool)))) else .ok (.nx (x45.2, a29.2)))) else (.ok (.bk (a29.1, a29.2)) : Res (Fl (List Cl × List (Cl × Bool)) Bool)))))
      fun r => (∃ s, r = .bk s ∧ (s.2.map (·.1)).Nodup ∧ (∀ c ∈ s.2.map (·.1), (c ∈ U ∧ Hng need S c) ∧ c.1 ∈ came) ∧ ∀ c, Hng need S c → c ∈ s.2.map (·.1)) ∨ ∃ v, r = .rt v ∧ (v = false ∧ ∃ c, Hng need S c ∧ c.1 ∉ came) := by
  refine Ok.whileX (fun s : List Cl × List (Cl × Bool) => (s.2.map (·.1)).Nodup ∧ (∀ c ∈ s.2.map (·.1), (c ∈ U ∧ Hng need S c) ∧ c.1 ∈ came) ∧ (∀ c ∈ s.1, c ∈ U ∧ Hng need S c) ∧ (∀ c ∈ S, c ∈ s.1 ∨ c ∈ s.2.map (·.1)) ∧ (∀ c ∈ s.2.map (·.1), ∀ d ∈ need c, d ∈ s.1 ∨ d ∈ s.2.map (·.1)) ∧ s.1.length + 3 * (1000 - s.2.length) ≤ 3900)
    (fun s : List Cl × List (Cl × Bool) => (s.2.map (·.1)).Nodup ∧ (∀ c ∈ s.2.map (·.1), (c ∈ U ∧ Hng need S c) ∧ c.1 ∈ came) ∧ ∀ c, Hng need S c → c ∈ s.2.map (·.1)) (fun v => v = false ∧ ∃ c, Hng need S c ∧ c.1 ∉ came)
    (fun s => s.1.length + 3 * (1000 - s.2.length)) (fun s hI => ?_) _ ?_ ⟨List.nodup_nil, (fun _ m => nomatch m), fun c m => ⟨hS c m, .base m⟩, fun c m => .inl m, (fun _ m => nomatch m), by show S.length + 3 * (1000 - 0) ≤ 3900; omega⟩
  · obtain ⟨wt, fnd⟩ := s
    obtain ⟨h1, h2, h3, h4, h5, h6⟩ := hI
    simp only at h1 h2 h3 h4 h5 h6
    have fl : fnd.length ≤ 1000 := by
      have := nodup_le h1 (fun c m => (h2 c m).1.1)
      rw [List.length_map] at this
      omega
    refine Ok.guard (okEq_of (okPr _) rfl) ?_
    rcases List.eq_nil_or_concat wt with rfl | ⟨pre, c, rfl⟩
    · refine Ok.iteF rfl (Ok.pure (.inr (.inl ⟨_, rfl, h1, h2, fun c hc => ?_⟩)))
      induction hc with
      | base m => exact (h4 _ m).elim (fun z => nomatch z) id
      | step _ m ih => exact (h5 _ ih _ m).elim (fun z => nomatch z) id
    · rw [List.concat_eq_append] at *
      have mc : c ∈ pre ++ [c] := List.mem_append_right _ List.mem_cons_self
      have lw : (pre ++ [c]).length = pre.length + 1 := by rw [List.length_append]; rfl
      refine Ok.iteT (by show (!(eqD (enc (pre ++ [c])) (enc ([] : List Y.D)))) = true; rw [eqPr_nil]; simp) (Ok.bindE popE_last (Ok.guard (okIn _ _) ?_))
      by_cases cc : c.1 ∈ came
      case neg => exact Ok.iteT (by show (!(inD (enc c.1) (came.map enc))) = true; rw [inD_ints, decide_eq_false cc]; rfl) (Ok.pure (.inr (.inr ⟨_, rfl, rfl, c, (h3 c mc).2, cc⟩)))
      refine Ok.iteF (by show (!(inD (enc c.1) (came.map enc))) = false; rw [inD_ints, decide_eq_true cc]; rfl) ?_
      by_cases hc : c ∈ fnd.map (·.1)
      · refine Ok.iteF (by show (hasA fnd c != true) = false; rw [hasA_iff.mpr hc]; rfl) (Ok.pure (.inl ⟨_, rfl, ⟨h1, h2, fun d m => h3 d (List.mem_append_left _ m), fun d m => ?_, fun d m e me => ?_, by show pre.length + 3 * (1000 - fnd.length) ≤ 3900; omega⟩, by show pre.length + 3 * (1000 - fnd.length) < (pre ++ [c]).length + 3 * (1000 - fnd.length); omega⟩))
        · rcases h4 d m with z | z
          · rcases List.mem_append.mp z with z | z
            · exact .inl z
            · rw [List.mem_singleton.mp z]; exact .inr hc
          · exact .inr z
        · rcases h5 d m e me with z | z
          · rcases List.mem_append.mp z with z | z
            · exact .inl z
            · rw [List.mem_singleton.mp z]; exact .inr hc
          · exact .inr z
      · have hf : hasA fnd c = false := by
          cases e : hasA fnd c with
          | false => rfl
          | true => exact absurd (hasA_iff.mp e) hc
        obtain ⟨n1, n2, n3⟩ := hn c (h3 c mc).1 cc
        have nd2 : ((fnd ++ [(c, true)]).map (·.1)).Nodup := by
          rw [List.map_append]
          exact List.nodup_append.mpr ⟨h1, by simp, fun a ma b mb e => hc (by have e2 : b = c := List.mem_singleton.mp mb; rw [← e2, ← e]; exact ma)⟩
        have hU2 : ∀ d ∈ (fnd ++ [(c, true)]).map (·.1), (d ∈ U ∧ Hng need S d) ∧ d.1 ∈ came := fun d m => by
          rw [List.map_append] at m
          rcases List.mem_append.mp m with m | m
          · exact h2 d m
          · rw [List.mem_singleton.mp m]; exact ⟨h3 c mc, cc⟩
        have fl2 : fnd.length + 1 ≤ 1000 := by
          have := nodup_le nd2 (fun c m => (hU2 c m).1.1)
          rw [List.length_map, List.length_append] at this
          simp only [List.length_cons, List.length_nil] at this
          omega
        refine Ok.iteT (by show (hasA fnd c != true) = true; rw [hf]; rfl) (Ok.guard (by show fnd.length < _; omega) (Ok.bindE n1 (Ok.guard (by show pre.length + _ ≤ _; omega) (Ok.pure (.inl ⟨_, rfl, ⟨?_, ?_, fun d m => ?_, fun d m => ?_, fun d m e me => ?_, ?_⟩, ?_⟩)))))
        · show ((putA fnd c true).map (·.1)).Nodup; rw [putA_new hc]; exact nd2
        · show ∀ d ∈ (putA fnd c true).map (·.1), _; rw [putA_new hc]; exact hU2
        · rcases List.mem_append.mp m with m | m
          · exact h3 d (List.mem_append_left _ m)
          · exact ⟨n3 d m, .step (h3 c mc).2 m⟩
        · show d ∈ pre ++ need c ∨ d ∈ (putA fnd c true).map (·.1)
          rw [putA_new hc, List.map_append]
          rcases h4 d m with z | z
          · rcases List.mem_append.mp z with z | z
            · exact .inl (List.mem_append_left _ z)
            · exact .inr (List.mem_append_right _ z)
          · exact .inr (List.mem_append_left _ z)
        · show e ∈ pre ++ need c ∨ e ∈ (putA fnd c true).map (·.1)
          have m : d ∈ (putA fnd c true).map (·.1) := m
          rw [putA_new hc, List.map_append] at m ⊢
          rcases List.mem_append.mp m with m | m
          · rcases h5 d m e me with z | z
            · rcases List.mem_append.mp z with z | z
              · exact .inl (List.mem_append_left _ z)
              · exact .inr (List.mem_append_right _ z)
            · exact .inr (List.mem_append_left _ z)
          · have e1 : d = c := List.mem_singleton.mp m
            rw [e1] at me
            exact .inl (List.mem_append_right _ me)
        · show (pre ++ need c).length + 3 * (1000 - (putA fnd c true).length) ≤ 3900
          rw [putA_new hc, List.length_append, List.length_append]
          simp only [List.length_cons, List.length_nil]
          omega
        · show (pre ++ need c).length + 3 * (1000 - (putA fnd c true).length) < (pre ++ [c]).length + 3 * (1000 - fnd.length)
          rw [putA_new hc, List.length_append, List.length_append, lw]
          simp only [List.length_cons, List.length_nil]
          omega
  · show S.length + 3 * (1000 - 0) < 4000
    omega
theorem needs_l27 {ls : List Lf} {w i x : Nat} {l : Lf} (el : ls[i]? = some l) (g2 : fitsL i w l = true) (hx : x < w) : l_needs (ls.map dL) (i : Int) (x : Int) = .ok (ndC ls ((i : Int), (x : Int))) := by
    rw [ndC_eq el]
    unfold l_needs
    refine Is.bind (a := dL l) (ix_at (by omega) (by rw [Int.toNat_natCast, List.getElem?_map, el]; rfl)) ?_
    cases l with
    | full t s vs =>
      refine Is.bind (a := rowL (.full t s vs)) rfl (Is.bind (a := .str "full") rfl ((stepEq (show eqOk 20 (.str "full") = true from sf) sf).trans ?_))
      rw [is_self]
      rfl
    | still t s b =>
      refine Is.bind (a := rowL (.still t s b)) rfl (Is.bind (a := .str "still") rfl ((stepEq (show eqOk 20 (.str "still") = true from ss) sf).trans ?_))
      rw [str_apart (is_self "still") fs_.symm]
      refine Is.iteF rfl (Is.bind (a := rowL (.still t s b)) rfl (Is.bind (a := .str "still") rfl ((stepEq (show eqOk 20 (.str "still") = true from ss) ss).trans ?_)))
      rw [is_self]
      rfl
    | woven t s rs =>
      refine Is.bind (a := rowL (.woven t s rs)) rfl (Is.bind (a := .str "woven") rfl ((stepEq (show eqOk 20 (.str "woven") = true from sw) sf).trans ?_))
      rw [str_apart (is_self "woven") fw_.symm]
      refine Is.iteF rfl (Is.bind (a := rowL (.woven t s rs)) rfl (Is.bind (a := .str "woven") rfl ((stepEq (show eqOk 20 (.str "woven") = true from sw) ss).trans ?_)))
      rw [str_apart (is_self "woven") sw_.symm]
      have hf' : (decide ((rs.length : Int) = w) && rs.all (fitsR i w)) = true := g2
      simp only [Bool.and_eq_true, decide_eq_true_eq] at hf'
      have hcr : x < rs.length := by omega
      have er : ruleAt (.woven t s rs) x = rs[x] := by
        show rs.getD x (.Plain 0) = _
        rw [List.getD_eq_getElem?_getD, List.getElem?_eq_getElem hcr]
        rfl
      rw [er]
      generalize hr : rs[x] = r
      refine Is.iteF rfl (Is.bind (a := rowL (.woven t s rs)) rfl (Is.bind (a := tupR rs) rfl (Is.bind (a := rs.map fun r => D.tup (rowR r)) rfl (Is.bind (a := .tup (rowR r)) (ix_at (by omega) (by
        rw [Int.toNat_natCast, List.getElem?_map, List.getElem?_eq_getElem hcr, hr]; rfl)) ?_))))
      have al : asT (.tup (rowR r)) = .ok (rowR r) := rfl
      cases r with
      | Plain v =>
        refine Is.bind (a := rowR (.Plain v)) rfl (Is.bind (a := .str "plain") rfl ((stepEq (show eqOk 20 (.str "plain") = true from sp1) sp1).trans ?_))
        rw [is_self]
        rfl
      | Moved b c a =>
        refine Is.bind al (Is.bind (a := .str "moved") rfl ((stepEq (show eqOk 20 (.str "moved") = true from sp2) sp1).trans ?_))
        rw [str_apart (is_self "moved") pm.symm]
        refine Is.iteF rfl (Is.bind al (Is.bind (a := .str "moved") rfl ((stepEq (show eqOk 20 (.str "moved") = true from sp2) sp2).trans ?_)))
        rw [is_self]
        rfl
      | Mixed b c b2 c2 =>
        refine Is.bind al (Is.bind (a := .str "mixed") rfl ((stepEq (show eqOk 20 (.str "mixed") = true from sp3) sp1).trans ?_))
        rw [str_apart (is_self "mixed") px.symm]
        refine Is.iteF rfl (Is.bind al (Is.bind (a := .str "mixed") rfl ((stepEq (show eqOk 20 (.str "mixed") = true from sp3) sp2).trans ?_)))
        rw [str_apart (is_self "mixed") mx.symm]
        rfl
theorem allcame_l {ls : List Lf} {h : List (Int × K_Leaf)} {w : Nat} (S : St ls h w) {c : Cl} (hc : c ∈ cU ls w) : ∃ b, l_all_came (ls.map dL) (cameH h) c.1 c.2 = .ok b ∧ (b = true ↔ Kn ls (cameH h) c) := by
  have hS : ∀ d ∈ [c], d ∈ cU ls w := fun d m => by rw [List.mem_singleton.mp m]; exact hc
  have W := hungX_ok (nd := fun d => l_needs (ls.map dL) d.1 d.2) (need := ndQ ls (cameH h)) (came := cameH h) (U := cU ls w) (S := [c]) S.prog.few hS (by show 1 ≤ 900; decide) fun d md hd => by
    refine ⟨?_, S.need md⟩
    obtain ⟨i, x, l, rfl, hi, hx, el, g1, g2⟩ := S.at md hd
    have eN : ndQ ls (cameH h) ((i : Int), (x : Int)) = ndC ls ((i : Int), (x : Int)) := if_pos hd
    rw [eN]
    exact needs_l27 el g2 hx
  obtain ⟨r, e, hr⟩ := W
  rcases hr with ⟨s, rfl, _, h2, h3⟩ | ⟨v, rfl, rfl, d, hd, nc⟩
  · exact ⟨true, Is.bind e rfl, fun _ d hd => (h2 d (h3 d hd)).2, fun _ => rfl⟩
  · exact ⟨false, Is.bind e rfl, fun z => (nomatch z), fun k => absurd (k d hd) nc⟩
section
variable {ls : List Lf} {h : List (Int × K_Leaf)} {w : Nat}
def tRow (ls : List Lf) (w : Nat) (d : Cl) : Tp3 Int Int Int := ⟨d.1, d.2, vl ls w d⟩
theorem hng_low (S : St ls h w) {c : Cl} (hc : c ∈ cU ls w) (k : Kn ls (cameH h) c) {d : Cl} (hd : Hng (ndQ ls (cameH h)) [c] d) : d ∈ cU ls w ∧ (d = c ∨ d.1 < c.1) := by
  induction hd with
  | base m => rw [List.mem_singleton.mp m]; exact ⟨hc, .inl rfl⟩
  | @step a b ha m ih =>
    obtain ⟨aU, al⟩ := ih
    have ac := k a ha
    refine ⟨(S.need aU).2 b m, .inr ?_⟩
    obtain ⟨i, x, l, rfl, hi, hx, hl, _, _⟩ := S.at aU ac
    have eN : ndQ ls (cameH h) ((i : Int), (x : Int)) = ndC ls ((i : Int), (x : Int)) := if_pos ac
    rw [eN] at m
    have := nd_lower S hl hx b m
    rcases al with al | al
    · rw [← al]; exact this
    · have al : (i : Int) < c.1 := al
      omega
theorem tbl_last (S : St ls h w) {c : Cl} (hc : c ∈ cU ls w) (k : Kn ls (cameH h) c) {L : List Cl} (T : Tbl (ndQ ls (cameH h)) c L) : ∃ pre, L = pre ++ [c] := by
  have cL : c ∈ L := (T.mem c).mpr (.base List.mem_cons_self)
  rcases List.eq_nil_or_concat L with rfl | ⟨pre, z, e⟩
  · exact nomatch cL
  · rw [List.concat_eq_append] at e
    refine ⟨pre, ?_⟩
    have zL : z ∈ L := by rw [e]; exact List.mem_append_right _ List.mem_cons_self
    rcases (hng_low S hc k ((T.mem z).mp zL)).2 with q | q
    · rw [e, q]
    · exfalso
      rw [e] at cL
      rcases List.mem_append.mp cL with m | m
      · have pw := T.pw
        rw [e] at pw
        have := (List.pairwise_append.mp pw).2.2 c m z List.mem_cons_self
        rw [leP_iff] at this
        omega
      · rw [List.mem_singleton.mp m] at q
        omega
end
section
variable {ls : List Lf} {h : List (Int × K_Leaf)} {w : Nat}
end
section
variable {ls : List Lf} {h : List (Int × K_Leaf)} {w : Nat}
theorem Cm.came {came : List Int} (c : Cm ls came) : cameH (mergeA [] (prsA (came.map fun n => (⟨n, leafL (lfA ls n)⟩ : Tp2 Int K_Leaf)))) = came := by
  have e : prsA (came.map fun n => (⟨n, leafL (lfA ls n)⟩ : Tp2 Int K_Leaf)) = came.map fun n => (n, leafL (lfA ls n)) := by unfold prsA; rw [List.map_map]; rfl
  have ek : (came.map fun n => (n, leafL (lfA ls n))).map (·.1) = came := by rw [List.map_map]; exact List.map_id _
  rw [e, merge_new (by rw [List.nil_append, ek]; exact c.nodup), List.nil_append]
  unfold cameH
  rw [ek]
  exact lt_uniq (pw_lt (sortI_pw came) ((sortI_perm came).nodup_iff.mpr c.nodup)) c.pw fun k => (sortI_perm came).mem_iff
end
theorem after_ok {α β : Type} {k : α → Res β} {s : α} {φ : β → Prop} (h : Ok (k s) φ) : Ok (afterR k (Fl.nx s)) φ := h
theorem eqPr (a b : Cl) : eqD (enc a) (enc b) = decide (a = b) := by
  show ((a.1 == b.1) && ((a.2 == b.2) && true)) = _
  by_cases e : a = b
  · subst e; simp
  · rw [decide_eq_false e]
    by_cases e1 : a.1 = b.1
    · have e2 : ¬ a.2 = b.2 := fun z => e (Prod.ext e1 z)
      simp [e2]
    · simp [e1]
theorem inD_prs {c : Cl} : ∀ {l : List Cl}, c ∈ l → inD (enc c) (l.map enc) = true
  | d :: l, m => by
    show (eqD (enc d) (enc c) || inD (enc c) (l.map enc)) = true
    rw [eqPr]
    rcases List.mem_cons.mp m with rfl | m
    · simp
    · rw [inD_prs m, Bool.or_true]
theorem decs_prs : ∀ l : List Cl, Y.decs (α := Cl) (l.map enc) = some l
  | [] => rfl
  | c :: l => by
    show ((Y.Dec.dec (α := Cl) (enc c)).bind fun x => (Y.decs (α := Cl) (l.map enc)).bind fun xs => some (x :: xs)) = _
    rw [decs_prs l]
    rfl
theorem asD_prs (l : List Cl) : asD (List Cl) (enc l) = .ok l := by
  unfold asD
  have e : Y.Dec.dec (α := List Cl) (enc l) = some l := decs_prs l
  rw [e]
theorem table_no {ls : List Lf} {h : List (Int × K_Leaf)} {w : Nat} (S : St ls h w) {c : Cl} (hc : c ∈ cU ls w) (no : ¬ Kn ls (cameH h) c) : ∃ W, m_table h c.1 c.2 = .err ⟨"NotKnown", [enc W]⟩ ∧ Way ls (cameH h) c W := by
  have hS : ∀ d ∈ [c], d ∈ cU ls w := fun d m => by rw [List.mem_singleton.mp m]; exact hc
  obtain ⟨r, e, nd, rh, rU⟩ := hung_ok S.prog.few hS (by show 1 ≤ 900; decide) S.prog.ok
  have hl : (r.map (·.1)).length ≤ 1000 := Nat.le_trans (nodup_le nd rU) S.prog.few
  obtain ⟨b, eb, hb⟩ := allcame_m S (by rw [List.length_map] at hl; omega) rh
  have hb : b = false := by
    cases b with
    | false => rfl
    | true => exact absurd (hb.mp rfl) no
  subst hb
  obtain ⟨W, eW, hW⟩ := way_m S no nd rh rU
  refine ⟨W, ?_, hW⟩
  unfold m_table
  exact Is.bind (a := r) (by show (m_hung h [c]).noErr = _; rw [e]; rfl) (Is.bind (a := (false, r)) (by rw [eb]; rfl) (Is.iteF rfl (Is.bind (a := W) (by show (m_way_out h c r).noErr = _; rw [eW]; rfl) (Is.guard' (noLs_prs W) rfl))))
section
variable {ls : List Lf} {h : List (Int × K_Leaf)} {w : Nat}
theorem Way.inU (S : St ls h w) {c : Cl} (hc : c ∈ cU ls w) {W : List Cl} (y : Way ls (cameH h) c W) : ∀ (i : Nat) a, W[i]? = some a → a ∈ cU ls w ∧ a.1 + (i : Int) ≤ c.1
  | 0, a, e => by
    rw [y.hd] at e
    cases e
    exact ⟨hc, by omega⟩
  | i + 1, b, e => by
    have hi : i < W.length := by have := (List.getElem?_eq_some_iff.mp e).1; omega
    have ea := List.getElem?_eq_getElem hi
    generalize W[i] = a at ea
    obtain ⟨aU, lt⟩ := y.inU S hc i a ea
    obtain ⟨ac, bn⟩ := y.st i a b ea e
    have bq : b ∈ ndQ ls (cameH h) a := by unfold ndQ; rw [if_pos ac]; exact bn
    obtain ⟨j, x, l, rfl, hj, hx, hl, _, _⟩ := S.at aU ac
    have := nd_lower S hl hx b bn
    refine ⟨(S.need aU).2 b bq, ?_⟩
    have lt : (j : Int) + (i : Int) ≤ c.1 := lt
    omega
theorem Way.few (S : St ls h w) {c : Cl} (hc : c ∈ cU ls w) {W : List Cl} (y : Way ls (cameH h) c W) : 0 < W.length ∧ W.length ≤ 300 := by
  have p : 0 < W.length := (List.getElem?_eq_some_iff.mp y.hd).1
  refine ⟨p, ?_⟩
  have e := List.getElem?_eq_getElem (show W.length - 1 < W.length by omega)
  obtain ⟨aU, lt⟩ := y.inU S hc _ _ e
  have := cU_pos aU
  have := cU_pos hc
  have := S.many
  omega
theorem after_is {α β : Type} {k : α → Res β} {a : α} {x : Res β} (h : k a = x) : afterR k (Fl.nx a) = x := h
theorem way_right (S : St ls h w) {c : Cl} (hc : c ∈ cU ls w) {W : List Cl} (y : Way ls (cameH h) c W) : l_way_right (ls.map dL) (cameH h) W c.1 c.2 = .ok true := by
  obtain ⟨f0, f1⟩ := y.few S hc
  have rq : okEq (enc c) (enc (⟨c.1, c.2⟩ : Tp2 Int Int)) ∧ eqD (enc c) (enc (⟨c.1, c.2⟩ : Tp2 Int Int)) = true := ⟨okEq_of rfl rfl, by
    show ((c.1 == c.1) && ((c.2 == c.2) && true)) = true
    simp⟩
  unfold l_way_right
  refine Is.iteT rfl (Is.guard' (okEq_of (okPr _) rfl) (Is.iteF (by rw [eqPr_nil]; cases W with | nil => exact absurd f0 (Nat.lt_irrefl 0) | cons _ _ => rfl) (Is.bind (ix_at (Int.le_refl 0) y.hd) (Is.guard' rq.1 (Is.iteF (by rw [rq.2]; rfl) (Is.bind (for_all fun p mp => ?_) ?_))))))
  · refine Is.iteT rfl (Is.iteF rfl (Is.bind (a := [.int p.1, .int p.2]) rfl (Is.bind (a := ([true, true], ())) ?_ rfl)))
    rw [compR_map (g := fun _ : D => true) (by show 2 ≤ 1000000; decide) fun d md => ?_]
    · rfl
    · rcases List.mem_cons.mp md with rfl | md
      · exact Is.bind (whole_i p.1) rfl
      · rw [List.mem_singleton.mp md]
        exact Is.bind (whole_i p.2) rfl
  refine after_is (Is.guard' (by omega) (Is.bind (for_all fun k mk => ?_) ?_))
  · obtain ⟨k0, k1⟩ := mem_rngI mk
    have ea := List.getElem?_eq_getElem (show (k - 1).toNat < W.length by omega)
    generalize W[(k - 1).toNat] = a at ea
    have eb := List.getElem?_eq_getElem (show (k - 1).toNat + 1 < W.length by omega)
    generalize W[(k - 1).toNat + 1] = b at eb
    obtain ⟨ac, bn⟩ := y.st _ a b ea eb
    obtain ⟨aU, _⟩ := y.inU S hc _ a ea
    obtain ⟨j, x, l, rfl, hj, hx, hl, g, f⟩ := S.at aU ac
    refine Is.bind (ix_at (by omega) ea) (Is.guard' (okIn _ _) (Is.iteF (by show (!(inD (enc (j : Int)) ((cameH h).map enc))) = false; rw [inD_ints, decide_eq_true ac]; rfl) (Is.bind (a := b) (ix_at (by omega) (by rw [← eb]; congr 1; omega)) (Is.bind (needs_l27 hl f hx) (Is.guard' ?_ (Is.iteF ?_ rfl))))))
    · exact okEq_of rfl (okPr _)
    · show (!(inD (enc b) ((ndC ls ((j : Int), (x : Int))).map enc))) = false
      rw [inD_prs bn]
      rfl
  rcases List.eq_nil_or_concat W with rfl | ⟨pre, z, rfl⟩
  · exact absurd f0 (Nat.lt_irrefl 0)
  · rw [List.concat_eq_append] at *
    have nc := y.la z (by simp)
    refine after_is (Is.bind ix_last (Is.guard' (okIn _ _) ?_))
    show Res.ok (!(inD (enc z.1) ((cameH h).map enc))) = _
    rw [inD_ints, decide_eq_false nc]
    rfl
theorem way_yes (S : St ls h w) {c : Cl} (hc : c ∈ cU ls w) (k : Kn ls (cameH h) c) : l_way h c.1 c.2 = .ok (.tup []) := by
  obtain ⟨L, eT, T⟩ := table_yes S S.okL hc k
  unfold l_way
  rw [eT]
  rfl
theorem way_no (S : St ls h w) {c : Cl} (hc : c ∈ cU ls w) (k : ¬ Kn ls (cameH h) c) : ∃ W, l_way h c.1 c.2 = .ok (enc W) ∧ Way ls (cameH h) c W := by
  obtain ⟨W, eT, y⟩ := table_no S hc k
  refine ⟨W, ?_, y⟩
  unfold l_way
  rw [eT]
  show guardR (("NotKnown" : Str) ∈ (["NotKnown"] : List Str)) _ = _
  exact Is.guard' List.mem_cons_self (Is.guard' rfl (Is.bind (a := false) rfl rfl))
theorem asked_ok (S : St ls h w) {c : Cl} (hc : c ∈ cU ls w) : l_asked (ls.map dL) h (cameH h) c.1 c.2 = .ok true := by
  have ok := S.okL
  have kn := known_m S ok hc
  obtain ⟨b, eb, hb⟩ := allcame_l S hc
  unfold l_asked
  by_cases k : Kn ls (cameH h) c
  · obtain ⟨L, eT, T⟩ := table_yes S ok hc k
    have hb := hb.mpr k
    subst hb
    have eT : m_table h c.1 c.2 = .ok (L.map (tRow ls w)) := eT
    obtain ⟨pre, eL⟩ := tbl_last S hc k T
    have e1 : ixR (L.map (tRow ls w)) (-1) = .ok (tRow ls w c) := by
      rw [eL, List.map_append]
      exact ix_last
    refine Is.bind (way_yes S hc k) (Is.bind eb (Is.iteT rfl (Is.guard' (okEq_of rfl rfl) (Is.iteT rfl (Is.bind (a := L.map (tRow ls w)) (by rw [eT]; rfl) (Is.bind e1 (Is.bind (a := [.int c.1, .int c.2, .int (vl ls w c)]) rfl (Is.guard' (okEq_of rfl rfl) ?_))))))))
    show Res.ok ((c.1 == c.1) && ((c.2 == c.2) && true)) = _
    simp
  · obtain ⟨W, eW, y⟩ := way_no S hc k
    have hb : b = false := by
      cases b with
      | false => rfl
      | true => exact absurd (hb.mp rfl) k
    subst hb
    rw [kv_no k] at kn
    have r := way_right S hc y
    have f := y.few S hc
    exact Is.bind eW (Is.bind eb (Is.iteF rfl (Is.bind kn (Is.iteF rfl (Is.bind (asD_prs W) (Is.bind r (Is.iteT rfl (Is.bind (asD_prs W) (Is.guard' (by omega) (Is.bind eW (Is.bind (asD_prs W) (Is.bind r rfl))))))))))))
end
theorem came_ok {ls : List Lf} {st : List Int} (h : st.length = 3) (h0 : 0 < ls.length) (hl : ls.length ≤ 100) : Ok (l_came st (ls.length : Int)) fun r => Cm ls r.1 ∧ r.1.length ≤ 100 ∧ r.2.length = 3 := by
  unfold l_came
  have fin : ∀ l : List Int, l.Sublist (rngI 0 (ls.length : Int)) → Cm ls l ∧ l.length ≤ 100 := fun l s => ⟨cm_sub rfl s, by have := s.length_le; rw [rngI_len] at this; omega⟩
  refine dw h (by decide) (by decide) fun x1 s1 a1 b1 h1 => dw h1 (by omega) (by omega) fun x2 s2 a2 b2 h2 => Ok.ite (fun _ => Ok.guard (by omega) (Ok.un2 (comp_sub (by rw [rngI_len]; omega) (fun _ => True) (fun x s mx _ => Ok.ite (fun _ => Ok.pure ⟨trivial, .inl rfl⟩) fun _ => Ok.pure ⟨trivial, .inr rfl⟩) trivial) ?_)) fun _ => Ok.ite (fun _ => Ok.pure ⟨(fin _ (List.nil_sublist _)).1, Nat.zero_le _, h2⟩) fun _ => Ok.ite (fun _ => Ok.guard (by omega) (Ok.un2 (comp_sub (by rw [rngI_len]; omega) (fun s => s.length = 3) (fun x s mx hs => dw hs (by omega) (by omega) fun y s' ay by' hs' => Ok.ite (fun _ => Ok.pure ⟨hs', .inl rfl⟩) fun _ => Ok.pure ⟨hs', .inr rfl⟩) h2) ?_)) fun _ => Ok.guard (by omega) (Ok.un2 (comp_sub (by rw [rngI_len]; omega) (fun s => s.length = 3) (fun x s mx hs => dw hs (by omega) (by omega) fun y s' ay by' hs' => Ok.ite (fun _ => Ok.pure ⟨hs', .inl rfl⟩) fun _ => Ok.pure ⟨hs', .inr rfl⟩) h2) ?_)
  · rintro l s ⟨_, sub⟩
    exact Ok.pure ⟨(fin _ sub).1, (fin _ sub).2, h2⟩
  · rintro l s ⟨hs, sub⟩
    exact Ok.pure ⟨(fin _ sub).1, (fin _ sub).2, hs⟩
  · rintro l s ⟨hs, sub⟩
    exact Ok.pure ⟨(fin _ sub).1, (fin _ sub).2, hs⟩
theorem leaf_of_at {ls : List Lf} (l2 : ∀ (i : Nat) l, ls[i]? = some l → goodL l ∧ fitsL i w l = true) {came : List Int} (cm : Cm ls came) {n : Int} (mn : n ∈ came) : ((ixR (ls.map dL) n).bind fun x => ((m_leaf_of x).noErr).bind fun y => (.ok (some (⟨n, y⟩ : Tp2 Int K_Leaf), ()) : Res _)) = .ok (some (⟨n, leafL (lfA ls n)⟩ : Tp2 Int K_Leaf), ()) := by
  obtain ⟨r0, r1⟩ := cm.rg n mn
  have hi : n.toNat < ls.length := by omega
  have e := List.getElem?_eq_getElem hi
  refine Is.bind (a := dL ls[n.toNat]) (ix_at r0 (by rw [List.getElem?_map, e]; rfl)) (Is.bind (a := leafL ls[n.toNat]) (by
    show (m_leaf_of (.tup (rowL ls[n.toNat]))).noErr = _
    rw [leaf_m (l2 _ _ e).1]
    rfl) ?_)
  unfold lfA
  rw [e]
  rfl
theorem chain_right28 {st : List Int} (h : st.length = 3) : Ok (l_chain_right st) fun r => r.1 = true := by
  unfold l_chain_right
  refine Ok.bind (chain_ok h) ?_
  rintro ⟨_, s1⟩ ⟨⟨ls, rfl, l1, l2, l3⟩, h1⟩
  simp only at h1
  refine dw h1 (by decide) (by decide) fun x2 s2 a2 b2 h2 => dw h2 (by decide) (by decide) fun x3 s3 a3 b3 h3 => Ok.ixm a3 (by exact b3) fun g mg => ?_
  refine Ok.un2 (comp_sub (by rw [rngI_len]; decide) (fun _ => True) (fun x s mx _ => Ok.ite (fun _ => Ok.pure ⟨trivial, .inl rfl⟩) fun _ => Ok.pure ⟨trivial, .inr rfl⟩) trivial) ?_
  rintro came _ ⟨_, sub⟩
  simp only at sub
  have cm : Cm ls came := cm_sub rfl (by rw [l1]; exact sub)
  have cl : came.length ≤ 200 := by have := sub.length_le; rw [rngI_len] at this; exact this
  rw [compR_map (g := fun n => (⟨n, leafL (lfA ls n)⟩ : Tp2 Int K_Leaf)) (by omega) fun n mn => leaf_of_at l2 cm mn]
  have S : St ls (mergeA [] (prsA (came.map fun n => (⟨n, leafL (lfA ls n)⟩ : Tp2 Int K_Leaf)))) 1 := ⟨l2, cm.hd, by decide, by decide, by omega, by omega⟩
  have a := asked_ok S (c := (199, 0)) (List.mem_append_left _ (mem_allC.mpr ⟨199, 0, by omega, by decide, rfl⟩))
  rw [cm.came] at a
  exact Ok.bindE rfl (Ok.bindE a (Ok.pure rfl))
theorem law_ok (ns : List Int) (h : ns.length ≤ 63) : m_law ns = .ok true := by
  have q : Ok (m_law ns) fun r => r = true := by
    unfold m_law
    refine Ok.bind (well_ok (by decide)) fun w0 hw0 => dw hw0 (by decide) (by decide) fun x1 s1 a1 b1 h1 => dw h1 (by decide) (by decide) fun x2 s2 a2 b2 h2 => Ok.lt (dw h2 (by decide) (by decide) fun x3 s3 a3 b3 h3 => Ok.ixm a3 (by exact b3) fun w mw => Ok.lt (dw h3 (by decide) (by decide) fun x4 s4 a4 b4 h4 => Ok.ixm a4 (by exact b4) fun m mm => ?_))
    have hw : 1 ≤ w ∧ w ≤ 16 := by
      simp only [List.mem_cons, List.not_mem_nil, or_false] at mw
      omega
    have hm : 1 ≤ m ∧ m ≤ 30 := by
      simp only [List.mem_cons, List.not_mem_nil, or_false] at mm
      omega
    obtain ⟨w, rfl⟩ : ∃ k : Nat, w = (k : Int) := ⟨w.toNat, by omega⟩
    refine dw h4 (by omega) (by omega) fun x5 s5 a5 b5 h5 => Ok.bind (leavesF_ok h5 (by show 0 ≤ 1 + x5; omega) (by show 1 + x5 ≤ 100; omega) hw.1 hw.2) ?_
    rintro ⟨_, s6⟩ ⟨⟨ls, rfl, l1, l2, l3⟩, h6⟩
    have l1 : ls.length = (1 + x5).toNat := l1
    have ll : 1 ≤ ls.length ∧ ls.length ≤ 30 := by omega
    refine Ok.bind (well_ok (by decide)) fun wa hwa => ?_
    show Ok ((l_came wa (((ls.map dL).length : Nat) : Int)).bind _) _
    rw [List.length_map]
    refine Ok.bind (came_ok hwa (by omega) (by omega)) ?_
    rintro ⟨came, s7⟩ ⟨cm, cl, h7⟩
    simp only at cm cl
    show Ok ((compR came () _).bind _) _
    rw [compR_map (g := fun n => (⟨n, leafL (lfA ls n)⟩ : Tp2 Int K_Leaf)) (by omega) fun n mn => leaf_of_at l2 cm mn]
    have S0 : St ls (mergeA [] (prsA (came.map fun n => (⟨n, leafL (lfA ls n)⟩ : Tp2 Int K_Leaf)))) w := ⟨l2, cm.hd, by omega, by omega, Nat.le_trans (Nat.mul_le_mul (show ls.length + 11 ≤ 41 by omega) (show w ≤ 16 by omega)) (by decide), by omega⟩
    have ce := cm.came
    refine Ok.bindE rfl ?_
    show Ok ((l_well ns 2).bind fun x160 => _) _
    generalize hh : mergeA [] (prsA (came.map fun n => (⟨n, leafL (lfA ls n)⟩ : Tp2 Int K_Leaf))) = hd at S0 ce
    refine Ok.bind (well_ok (by decide)) fun wb hwb => ?_
    rw [compR_map (g := fun x : Int => (⟨(ls.length : Int) - 1, x % (w : Int)⟩ : Tp2 Int Int)) (by decide) fun x _ => Is.guard' (by omega) rfl]
    refine Ok.bindE rfl (dw hwb (by decide) (by decide) fun y0 s8 a8 b8 h8 => Ok.lt (Ok.guard (by show 4 + 1 ≤ 1000000; decide) (Ok.bind (forRng (n := 4) (fun i (q : List (Tp2 Int Int) × List Int) => (∀ p ∈ q.1, (p.a, p.b) ∈ cU ls w) ∧ q.1.length = 5 + i ∧ q.2.length = 3) (fun i q hi hq => ?_) ⟨fun p mp => ?_, rfl, h8⟩) ?_)))
    · obtain ⟨ps, sq⟩ := q
      obtain ⟨q1, q2, q3⟩ := hq
      simp only at q1 q2 q3
      refine dw q3 (by omega) (by omega) fun y s8 a8 b8 h8 => dw h8 (by omega) (by omega) fun z s9 a9 b9 h9 => Ok.guard (by simp only; omega) (Ok.pure ⟨_, rfl, fun p mp => ?_, by simp only [List.length_append, List.length_cons, List.length_nil]; omega, h9⟩)
      rcases List.mem_append.mp mp with mp | mp
      · exact q1 p mp
      · rw [List.mem_singleton.mp mp]
        exact List.mem_append_left _ (mem_allC.mpr ⟨y.toNat, z.toNat, by omega, by omega, Prod.ext (by show y = _; omega) (by show z = _; omega)⟩)
    · rcases List.mem_append.mp mp with mp | mp
      · obtain ⟨x, _, rfl⟩ := List.mem_map.mp mp
        have m0 := Int.emod_nonneg x (show (w : Int) ≠ 0 by omega)
        have m1 := Int.emod_lt_of_pos x (show 0 < (w : Int) by omega)
        exact List.mem_append_left _ (mem_allC.mpr ⟨ls.length - 1, (x % (w : Int)).toNat, by omega, by omega, Prod.ext (by show (ls.length : Int) - 1 = _; omega) (by show x % (w : Int) = _; omega)⟩)
      · rw [List.mem_singleton.mp mp]
        exact List.mem_append_left _ (mem_allC.mpr ⟨ls.length + y0.toNat, 0, by omega, by omega, Prod.ext (by show (ls.length : Int) + y0 = _; omega) (by show (0 : Int) = _; omega)⟩)
    rintro _ ⟨⟨ps, sq⟩, rfl, q1, q2, q3⟩
    simp only at q1 q2 q3
    have q2 : ps.length = 9 := q2
    refine after_ok (Ok.lt (Ok.guard (by have := (List.take_sublist 2 ps).length_le; show ps.length + (cutL ps none (some 2)).length ≤ 1000000; unfold cutL; simp; omega) (Ok.bind (φ := fun r => r = .nx ()) ⟨_, for_all fun p mp => ?_, rfl⟩ ?_)))
    · have mp : p ∈ ps := by
        rcases List.mem_append.mp mp with m | m
        · exact m
        · exact cutL_mem m
      have a := asked_ok S0 (q1 p mp)
      rw [ce] at a
      exact Is.bind a (Is.iteT rfl rfl)
    rintro _ rfl
    have es : sortI (hd.map (·.1)) = came := ce
    have rc : okEq (enc (sortI (hd.map (·.1)))) (enc came) ∧ eqD (enc (sortI (hd.map (·.1)))) (enc came) = true := by rw [es]; exact row_same came
    refine after_ok (Ok.bind (φ := fun b => b = false) (Ok.bind (well_ok (by decide)) fun w6 hw6 => dw hw6 (by decide) (by decide) fun x1 s1 a1 b1 h1 => Ok.ite (fun _ => Ok.bind (well_ok (by decide)) fun w7 hw7 => Ok.bind (chain_right28 hw7) fun r hr => Ok.pure (by rw [hr]; rfl)) fun _ => Ok.pure rfl) ?_)
    rintro _ rfl
    exact Ok.iteF rfl (Ok.lt (Ok.guard rc.1 (Ok.pure rc.2)))
  obtain ⟨a, e, rfl⟩ := q
  exact e
end A

set_option maxHeartbeats 4000000
namespace A
open PySem PySem.Spec PyProof.Rows L2 Y
open Y.Enc (enc)
theorem all_mk {l : PySem.W.OpenLaw} {w : World} {K : PySem.W.Frag} {h : Heap} {mg : Str → Option Value} {fa : Addr} (X : K.In h) (G : h.Ns mainGlobals mg) (hfa : mg "law" = some (.ref fa))
    {C_NotKnown : Addr}
    {C_Moved : Addr}
    (kca_Moved : PySem.W.nsIn K mainGlobals "Moved" = some (some (.ref C_Moved)))
    (kcpg_Moved : PySem.W.plainGet K C_Moved Str.empty = true)
    (kchd_Moved : PySem.W.hasDictIn K C_Moved = true)
    (kcpo_Moved : PySem.W.plainOver K C_Moved = true)
    (kcsa_Moved : PySem.W.findIn K (.ref C_Moved) "__setattr__" = some (some (.builtin "object.__setattr__")))
    (kcha_Moved : PySem.W.findIn K (.ref C_Moved) "__class__" = some (some (.builtin "object.__class__")))
    (kchm_Moved : PySem.W.mroIn K C_Moved (.type "object") = some true)
    (kcty_Moved : PySem.W.typeIn K (.ref C_Moved) = some (.type "type"))
    (kcis_Moved : PySem.W.isClsIn K C_Moved = true)
    (kcself_Moved : PySem.W.subIn K (.ref C_Moved) (.ref C_Moved) = some true)
    (kctbool_Moved : PySem.W.subIn K (.ref C_Moved) (.type "bool") = some false)
    (kctint_Moved : PySem.W.subIn K (.ref C_Moved) (.type "int") = some false)
    (kctstr_Moved : PySem.W.subIn K (.ref C_Moved) (.type "str") = some false)
    (kctlist_Moved : PySem.W.subIn K (.ref C_Moved) (.type "list") = some false)
    (kcttuple_Moved : PySem.W.subIn K (.ref C_Moved) (.type "tuple") = some false)
    (kctdict_Moved : PySem.W.subIn K (.ref C_Moved) (.type "dict") = some false)
    (kcmk_Moved : PySem.W.makesIn K C_Moved = true)
    (kckp_Moved : PySem.W.keepIn K (.ref C_Moved) = true)
    {C_Mixed : Addr}
    (kca_Mixed : PySem.W.nsIn K mainGlobals "Mixed" = some (some (.ref C_Mixed)))
    (kcpg_Mixed : PySem.W.plainGet K C_Mixed Str.empty = true)
    (kchd_Mixed : PySem.W.hasDictIn K C_Mixed = true)
    (kcpo_Mixed : PySem.W.plainOver K C_Mixed = true)
    (kcsa_Mixed : PySem.W.findIn K (.ref C_Mixed) "__setattr__" = some (some (.builtin "object.__setattr__")))
    (kcha_Mixed : PySem.W.findIn K (.ref C_Mixed) "__class__" = some (some (.builtin "object.__class__")))
    (kchm_Mixed : PySem.W.mroIn K C_Mixed (.type "object") = some true)
    (kcty_Mixed : PySem.W.typeIn K (.ref C_Mixed) = some (.type "type"))
    (kcis_Mixed : PySem.W.isClsIn K C_Mixed = true)
    (kcself_Mixed : PySem.W.subIn K (.ref C_Mixed) (.ref C_Mixed) = some true)
    (kctbool_Mixed : PySem.W.subIn K (.ref C_Mixed) (.type "bool") = some false)
    (kctint_Mixed : PySem.W.subIn K (.ref C_Mixed) (.type "int") = some false)
    (kctstr_Mixed : PySem.W.subIn K (.ref C_Mixed) (.type "str") = some false)
    (kctlist_Mixed : PySem.W.subIn K (.ref C_Mixed) (.type "list") = some false)
    (kcttuple_Mixed : PySem.W.subIn K (.ref C_Mixed) (.type "tuple") = some false)
    (kctdict_Mixed : PySem.W.subIn K (.ref C_Mixed) (.type "dict") = some false)
    (kcmk_Mixed : PySem.W.makesIn K C_Mixed = true)
    (kckp_Mixed : PySem.W.keepIn K (.ref C_Mixed) = true)
    {C_Full : Addr}
    (kca_Full : PySem.W.nsIn K mainGlobals "Full" = some (some (.ref C_Full)))
    (kcpg_Full : PySem.W.plainGet K C_Full Str.empty = true)
    (kchd_Full : PySem.W.hasDictIn K C_Full = true)
    (kcpo_Full : PySem.W.plainOver K C_Full = true)
    (kcsa_Full : PySem.W.findIn K (.ref C_Full) "__setattr__" = some (some (.builtin "object.__setattr__")))
    (kcha_Full : PySem.W.findIn K (.ref C_Full) "__class__" = some (some (.builtin "object.__class__")))
    (kchm_Full : PySem.W.mroIn K C_Full (.type "object") = some true)
    (kcty_Full : PySem.W.typeIn K (.ref C_Full) = some (.type "type"))
    (kcis_Full : PySem.W.isClsIn K C_Full = true)
    (kcself_Full : PySem.W.subIn K (.ref C_Full) (.ref C_Full) = some true)
    (kctbool_Full : PySem.W.subIn K (.ref C_Full) (.type "bool") = some false)
    (kctint_Full : PySem.W.subIn K (.ref C_Full) (.type "int") = some false)
    (kctstr_Full : PySem.W.subIn K (.ref C_Full) (.type "str") = some false)
    (kctlist_Full : PySem.W.subIn K (.ref C_Full) (.type "list") = some false)
    (kcttuple_Full : PySem.W.subIn K (.ref C_Full) (.type "tuple") = some false)
    (kctdict_Full : PySem.W.subIn K (.ref C_Full) (.type "dict") = some false)
    (kcmk_Full : PySem.W.makesIn K C_Full = true)
    (kckp_Full : PySem.W.keepIn K (.ref C_Full) = true)
    {C_Plain : Addr}
    (kca_Plain : PySem.W.nsIn K mainGlobals "Plain" = some (some (.ref C_Plain)))
    (kcpg_Plain : PySem.W.plainGet K C_Plain Str.empty = true)
    (kchd_Plain : PySem.W.hasDictIn K C_Plain = true)
    (kcpo_Plain : PySem.W.plainOver K C_Plain = true)
    (kcsa_Plain : PySem.W.findIn K (.ref C_Plain) "__setattr__" = some (some (.builtin "object.__setattr__")))
    (kcha_Plain : PySem.W.findIn K (.ref C_Plain) "__class__" = some (some (.builtin "object.__class__")))
    (kchm_Plain : PySem.W.mroIn K C_Plain (.type "object") = some true)
    (kcty_Plain : PySem.W.typeIn K (.ref C_Plain) = some (.type "type"))
    (kcis_Plain : PySem.W.isClsIn K C_Plain = true)
    (kcself_Plain : PySem.W.subIn K (.ref C_Plain) (.ref C_Plain) = some true)
    (kctbool_Plain : PySem.W.subIn K (.ref C_Plain) (.type "bool") = some false)
    (kctint_Plain : PySem.W.subIn K (.ref C_Plain) (.type "int") = some false)
    (kctstr_Plain : PySem.W.subIn K (.ref C_Plain) (.type "str") = some false)
    (kctlist_Plain : PySem.W.subIn K (.ref C_Plain) (.type "list") = some false)
    (kcttuple_Plain : PySem.W.subIn K (.ref C_Plain) (.type "tuple") = some false)
    (kctdict_Plain : PySem.W.subIn K (.ref C_Plain) (.type "dict") = some false)
    (kcmk_Plain : PySem.W.makesIn K C_Plain = true)
    (kckp_Plain : PySem.W.keepIn K (.ref C_Plain) = true)
    {C_Still : Addr}
    (kca_Still : PySem.W.nsIn K mainGlobals "Still" = some (some (.ref C_Still)))
    (kcpg_Still : PySem.W.plainGet K C_Still Str.empty = true)
    (kchd_Still : PySem.W.hasDictIn K C_Still = true)
    (kcpo_Still : PySem.W.plainOver K C_Still = true)
    (kcsa_Still : PySem.W.findIn K (.ref C_Still) "__setattr__" = some (some (.builtin "object.__setattr__")))
    (kcha_Still : PySem.W.findIn K (.ref C_Still) "__class__" = some (some (.builtin "object.__class__")))
    (kchm_Still : PySem.W.mroIn K C_Still (.type "object") = some true)
    (kcty_Still : PySem.W.typeIn K (.ref C_Still) = some (.type "type"))
    (kcis_Still : PySem.W.isClsIn K C_Still = true)
    (kcself_Still : PySem.W.subIn K (.ref C_Still) (.ref C_Still) = some true)
    (kctbool_Still : PySem.W.subIn K (.ref C_Still) (.type "bool") = some false)
    (kctint_Still : PySem.W.subIn K (.ref C_Still) (.type "int") = some false)
    (kctstr_Still : PySem.W.subIn K (.ref C_Still) (.type "str") = some false)
    (kctlist_Still : PySem.W.subIn K (.ref C_Still) (.type "list") = some false)
    (kcttuple_Still : PySem.W.subIn K (.ref C_Still) (.type "tuple") = some false)
    (kctdict_Still : PySem.W.subIn K (.ref C_Still) (.type "dict") = some false)
    (kcmk_Still : PySem.W.makesIn K C_Still = true)
    (kckp_Still : PySem.W.keepIn K (.ref C_Still) = true)
    {C_Woven : Addr}
    (kca_Woven : PySem.W.nsIn K mainGlobals "Woven" = some (some (.ref C_Woven)))
    (kcpg_Woven : PySem.W.plainGet K C_Woven Str.empty = true)
    (kchd_Woven : PySem.W.hasDictIn K C_Woven = true)
    (kcpo_Woven : PySem.W.plainOver K C_Woven = true)
    (kcsa_Woven : PySem.W.findIn K (.ref C_Woven) "__setattr__" = some (some (.builtin "object.__setattr__")))
    (kcha_Woven : PySem.W.findIn K (.ref C_Woven) "__class__" = some (some (.builtin "object.__class__")))
    (kchm_Woven : PySem.W.mroIn K C_Woven (.type "object") = some true)
    (kcty_Woven : PySem.W.typeIn K (.ref C_Woven) = some (.type "type"))
    (kcis_Woven : PySem.W.isClsIn K C_Woven = true)
    (kcself_Woven : PySem.W.subIn K (.ref C_Woven) (.ref C_Woven) = some true)
    (kctbool_Woven : PySem.W.subIn K (.ref C_Woven) (.type "bool") = some false)
    (kctint_Woven : PySem.W.subIn K (.ref C_Woven) (.type "int") = some false)
    (kctstr_Woven : PySem.W.subIn K (.ref C_Woven) (.type "str") = some false)
    (kctlist_Woven : PySem.W.subIn K (.ref C_Woven) (.type "list") = some false)
    (kcttuple_Woven : PySem.W.subIn K (.ref C_Woven) (.type "tuple") = some false)
    (kctdict_Woven : PySem.W.subIn K (.ref C_Woven) (.type "dict") = some false)
    (kcmk_Woven : PySem.W.makesIn K C_Woven = true)
    (kckp_Woven : PySem.W.keepIn K (.ref C_Woven) = true)
    {C_Leaf : Addr}
    (kca_Leaf : PySem.W.nsIn K mainGlobals "Leaf" = some (some (.ref C_Leaf)))
    (kcpg_Leaf : PySem.W.plainGet K C_Leaf Str.empty = true)
    (kchd_Leaf : PySem.W.hasDictIn K C_Leaf = true)
    (kcpo_Leaf : PySem.W.plainOver K C_Leaf = true)
    (kcsa_Leaf : PySem.W.findIn K (.ref C_Leaf) "__setattr__" = some (some (.builtin "object.__setattr__")))
    (kcha_Leaf : PySem.W.findIn K (.ref C_Leaf) "__class__" = some (some (.builtin "object.__class__")))
    (kchm_Leaf : PySem.W.mroIn K C_Leaf (.type "object") = some true)
    (kcty_Leaf : PySem.W.typeIn K (.ref C_Leaf) = some (.type "type"))
    (kcis_Leaf : PySem.W.isClsIn K C_Leaf = true)
    (kcself_Leaf : PySem.W.subIn K (.ref C_Leaf) (.ref C_Leaf) = some true)
    (kctbool_Leaf : PySem.W.subIn K (.ref C_Leaf) (.type "bool") = some false)
    (kctint_Leaf : PySem.W.subIn K (.ref C_Leaf) (.type "int") = some false)
    (kctstr_Leaf : PySem.W.subIn K (.ref C_Leaf) (.type "str") = some false)
    (kctlist_Leaf : PySem.W.subIn K (.ref C_Leaf) (.type "list") = some false)
    (kcttuple_Leaf : PySem.W.subIn K (.ref C_Leaf) (.type "tuple") = some false)
    (kctdict_Leaf : PySem.W.subIn K (.ref C_Leaf) (.type "dict") = some false)
    (n_Moved_back : PySem.W.findIn K (.ref C_Moved) "back" = some none)
    (n_Moved_cell : PySem.W.findIn K (.ref C_Moved) "cell" = some none)
    (n_Mixed_back : PySem.W.findIn K (.ref C_Mixed) "back" = some none)
    (n_Mixed_cell : PySem.W.findIn K (.ref C_Mixed) "cell" = some none)
    (n_Mixed_other_back : PySem.W.findIn K (.ref C_Mixed) "other_back" = some none)
    (n_Mixed_other_cell : PySem.W.findIn K (.ref C_Mixed) "other_cell" = some none)
    (n_Full_worths : PySem.W.findIn K (.ref C_Full) "worths" = some none)
    (n_Still_back : PySem.W.findIn K (.ref C_Still) "back" = some none)
    (n_Woven_rules : PySem.W.findIn K (.ref C_Woven) "rules" = some none)
    (n_Plain_worth : PySem.W.findIn K (.ref C_Plain) "worth" = some none)
    (n_Moved_add : PySem.W.findIn K (.ref C_Moved) "add" = some none)
    (n_Full_begin : PySem.W.findIn K (.ref C_Full) "begin" = some none)
    (n_Full_span : PySem.W.findIn K (.ref C_Full) "span" = some none)
    (n_Still_begin : PySem.W.findIn K (.ref C_Still) "begin" = some none)
    (n_Still_span : PySem.W.findIn K (.ref C_Still) "span" = some none)
    (n_Woven_begin : PySem.W.findIn K (.ref C_Woven) "begin" = some none)
    (n_Woven_span : PySem.W.findIn K (.ref C_Woven) "span" = some none)
    {f_needs_of : Addr} {od_needs_of an_needs_of : Option Addr} {sl_needs_of : Array (Option Value)} {oc_needs_of kV_needs_of dc_needs_of pm_needs_of cd_needs_of ct_needs_of : Value}
    (a_needs_of : PySem.W.nsIn K mainGlobals "needs_of" = some (some (.ref f_needs_of))) (l_needs_of : K.lookup f_needs_of = some ⟨oc_needs_of, od_needs_of, .func (PySem.W.fnOf "needs_of" "needs_of" (defArgs s_needs_of) (defBody s_needs_of) (defScope s_needs_of) .none kV_needs_of dc_needs_of pm_needs_of an_needs_of cd_needs_of ct_needs_of), sl_needs_of⟩) (c_needs_of : PySem.W.codeIn K cd_needs_of "needs_of" = true) (k_needs_of : PySem.W.keepIn K (.ref f_needs_of) = true)
    {f_hung : Addr} {od_hung an_hung : Option Addr} {sl_hung : Array (Option Value)} {oc_hung kV_hung dc_hung pm_hung cd_hung ct_hung : Value}
    (a_hung : PySem.W.nsIn K mainGlobals "hung" = some (some (.ref f_hung))) (l_hung : K.lookup f_hung = some ⟨oc_hung, od_hung, .func (PySem.W.fnOf "hung" "hung" (defArgs s_hung) (defBody s_hung) (defScope s_hung) .none kV_hung dc_hung pm_hung an_hung cd_hung ct_hung), sl_hung⟩) (c_hung : PySem.W.codeIn K cd_hung "hung" = true) (k_hung : PySem.W.keepIn K (.ref f_hung) = true)
    {f_values_of : Addr} {od_values_of an_values_of : Option Addr} {sl_values_of : Array (Option Value)} {oc_values_of kV_values_of dc_values_of pm_values_of cd_values_of ct_values_of : Value}
    (a_values_of : PySem.W.nsIn K mainGlobals "values_of" = some (some (.ref f_values_of))) (l_values_of : K.lookup f_values_of = some ⟨oc_values_of, od_values_of, .func (PySem.W.fnOf "values_of" "values_of" (defArgs s_values_of) (defBody s_values_of) (defScope s_values_of) .none kV_values_of dc_values_of pm_values_of an_values_of cd_values_of ct_values_of), sl_values_of⟩) (c_values_of : PySem.W.codeIn K cd_values_of "values_of" = true) (k_values_of : PySem.W.keepIn K (.ref f_values_of) = true)
    {f_all_came : Addr} {od_all_came an_all_came : Option Addr} {sl_all_came : Array (Option Value)} {oc_all_came kV_all_came dc_all_came pm_all_came cd_all_came ct_all_came : Value}
    (a_all_came : PySem.W.nsIn K mainGlobals "all_came" = some (some (.ref f_all_came))) (l_all_came : K.lookup f_all_came = some ⟨oc_all_came, od_all_came, .func (PySem.W.fnOf "all_came" "all_came" (defArgs s_all_came) (defBody s_all_came) (defScope s_all_came) .none kV_all_came dc_all_came pm_all_came an_all_came cd_all_came ct_all_came), sl_all_came⟩) (c_all_came : PySem.W.codeIn K cd_all_came "all_came" = true) (k_all_came : PySem.W.keepIn K (.ref f_all_came) = true)
    {f_known : Addr} {od_known an_known : Option Addr} {sl_known : Array (Option Value)} {oc_known kV_known dc_known pm_known cd_known ct_known : Value}
    (a_known : PySem.W.nsIn K mainGlobals "known" = some (some (.ref f_known))) (l_known : K.lookup f_known = some ⟨oc_known, od_known, .func (PySem.W.fnOf "known" "known" (defArgs s_known) (defBody s_known) (defScope s_known) .none kV_known dc_known pm_known an_known cd_known ct_known), sl_known⟩) (c_known : PySem.W.codeIn K cd_known "known" = true) (k_known : PySem.W.keepIn K (.ref f_known) = true)
    {f_way_out : Addr} {od_way_out an_way_out : Option Addr} {sl_way_out : Array (Option Value)} {oc_way_out kV_way_out dc_way_out pm_way_out cd_way_out ct_way_out : Value}
    (a_way_out : PySem.W.nsIn K mainGlobals "way_out" = some (some (.ref f_way_out))) (l_way_out : K.lookup f_way_out = some ⟨oc_way_out, od_way_out, .func (PySem.W.fnOf "way_out" "way_out" (defArgs s_way_out) (defBody s_way_out) (defScope s_way_out) .none kV_way_out dc_way_out pm_way_out an_way_out cd_way_out ct_way_out), sl_way_out⟩) (c_way_out : PySem.W.codeIn K cd_way_out "way_out" = true) (k_way_out : PySem.W.keepIn K (.ref f_way_out) = true)
    {f_table : Addr} {od_table an_table : Option Addr} {sl_table : Array (Option Value)} {oc_table kV_table dc_table pm_table cd_table ct_table : Value}
    (a_table : PySem.W.nsIn K mainGlobals "table" = some (some (.ref f_table))) (l_table : K.lookup f_table = some ⟨oc_table, od_table, .func (PySem.W.fnOf "table" "table" (defArgs s_table) (defBody s_table) (defScope s_table) .none kV_table dc_table pm_table an_table cd_table ct_table), sl_table⟩) (c_table : PySem.W.codeIn K cd_table "table" = true) (k_table : PySem.W.keepIn K (.ref f_table) = true)
    {f_is_whole : Addr} {od_is_whole an_is_whole : Option Addr} {sl_is_whole : Array (Option Value)} {oc_is_whole kV_is_whole dc_is_whole pm_is_whole cd_is_whole ct_is_whole : Value}
    (a_is_whole : PySem.W.nsIn K mainGlobals "is_whole" = some (some (.ref f_is_whole))) (l_is_whole : K.lookup f_is_whole = some ⟨oc_is_whole, od_is_whole, .func (PySem.W.fnOf "is_whole" "is_whole" (defArgs s_is_whole) (defBody s_is_whole) (defScope s_is_whole) .none kV_is_whole dc_is_whole pm_is_whole an_is_whole cd_is_whole ct_is_whole), sl_is_whole⟩) (c_is_whole : PySem.W.codeIn K cd_is_whole "is_whole" = true) (k_is_whole : PySem.W.keepIn K (.ref f_is_whole) = true)
    {f_is_need : Addr} {od_is_need an_is_need : Option Addr} {sl_is_need : Array (Option Value)} {oc_is_need kV_is_need dc_is_need pm_is_need cd_is_need ct_is_need : Value}
    (a_is_need : PySem.W.nsIn K mainGlobals "is_need" = some (some (.ref f_is_need))) (l_is_need : K.lookup f_is_need = some ⟨oc_is_need, od_is_need, .func (PySem.W.fnOf "is_need" "is_need" (defArgs s_is_need) (defBody s_is_need) (defScope s_is_need) .none kV_is_need dc_is_need pm_is_need an_is_need cd_is_need ct_is_need), sl_is_need⟩) (c_is_need : PySem.W.codeIn K cd_is_need "is_need" = true) (k_is_need : PySem.W.keepIn K (.ref f_is_need) = true)
    {f_rule_of : Addr} {od_rule_of an_rule_of : Option Addr} {sl_rule_of : Array (Option Value)} {oc_rule_of kV_rule_of dc_rule_of pm_rule_of cd_rule_of ct_rule_of : Value}
    (a_rule_of : PySem.W.nsIn K mainGlobals "rule_of" = some (some (.ref f_rule_of))) (l_rule_of : K.lookup f_rule_of = some ⟨oc_rule_of, od_rule_of, .func (PySem.W.fnOf "rule_of" "rule_of" (defArgs s_rule_of) (defBody s_rule_of) (defScope s_rule_of) .none kV_rule_of dc_rule_of pm_rule_of an_rule_of cd_rule_of ct_rule_of), sl_rule_of⟩) (c_rule_of : PySem.W.codeIn K cd_rule_of "rule_of" = true) (k_rule_of : PySem.W.keepIn K (.ref f_rule_of) = true)
    {f_is_value : Addr} {od_is_value an_is_value : Option Addr} {sl_is_value : Array (Option Value)} {oc_is_value kV_is_value dc_is_value pm_is_value cd_is_value ct_is_value : Value}
    (a_is_value : PySem.W.nsIn K mainGlobals "is_value" = some (some (.ref f_is_value))) (l_is_value : K.lookup f_is_value = some ⟨oc_is_value, od_is_value, .func (PySem.W.fnOf "is_value" "is_value" (defArgs s_is_value) (defBody s_is_value) (defScope s_is_value) .none kV_is_value dc_is_value pm_is_value an_is_value cd_is_value ct_is_value), sl_is_value⟩) (c_is_value : PySem.W.codeIn K cd_is_value "is_value" = true) (k_is_value : PySem.W.keepIn K (.ref f_is_value) = true)
    {f_is_rule : Addr} {od_is_rule an_is_rule : Option Addr} {sl_is_rule : Array (Option Value)} {oc_is_rule kV_is_rule dc_is_rule pm_is_rule cd_is_rule ct_is_rule : Value}
    (a_is_rule : PySem.W.nsIn K mainGlobals "is_rule" = some (some (.ref f_is_rule))) (l_is_rule : K.lookup f_is_rule = some ⟨oc_is_rule, od_is_rule, .func (PySem.W.fnOf "is_rule" "is_rule" (defArgs s_is_rule) (defBody s_is_rule) (defScope s_is_rule) .none kV_is_rule dc_is_rule pm_is_rule an_is_rule cd_is_rule ct_is_rule), sl_is_rule⟩) (c_is_rule : PySem.W.codeIn K cd_is_rule "is_rule" = true) (k_is_rule : PySem.W.keepIn K (.ref f_is_rule) = true)
    {f_is_row_of : Addr} {od_is_row_of an_is_row_of : Option Addr} {sl_is_row_of : Array (Option Value)} {oc_is_row_of kV_is_row_of dc_is_row_of pm_is_row_of cd_is_row_of ct_is_row_of : Value}
    (a_is_row_of : PySem.W.nsIn K mainGlobals "is_row_of" = some (some (.ref f_is_row_of))) (l_is_row_of : K.lookup f_is_row_of = some ⟨oc_is_row_of, od_is_row_of, .func (PySem.W.fnOf "is_row_of" "is_row_of" (defArgs s_is_row_of__is_value) (defBody s_is_row_of__is_value) (defScope s_is_row_of__is_value) .none kV_is_row_of dc_is_row_of pm_is_row_of an_is_row_of cd_is_row_of ct_is_row_of), sl_is_row_of⟩) (c_is_row_of : PySem.W.codeIn K cd_is_row_of "is_row_of" = true) (k_is_row_of : PySem.W.keepIn K (.ref f_is_row_of) = true)
    {f_leaf_of : Addr} {od_leaf_of an_leaf_of : Option Addr} {sl_leaf_of : Array (Option Value)} {oc_leaf_of kV_leaf_of dc_leaf_of pm_leaf_of cd_leaf_of ct_leaf_of : Value}
    (a_leaf_of : PySem.W.nsIn K mainGlobals "leaf_of" = some (some (.ref f_leaf_of))) (l_leaf_of : K.lookup f_leaf_of = some ⟨oc_leaf_of, od_leaf_of, .func (PySem.W.fnOf "leaf_of" "leaf_of" (defArgs s_leaf_of) (defBody s_leaf_of) (defScope s_leaf_of) .none kV_leaf_of dc_leaf_of pm_leaf_of an_leaf_of cd_leaf_of ct_leaf_of), sl_leaf_of⟩) (c_leaf_of : PySem.W.codeIn K cd_leaf_of "leaf_of" = true) (k_leaf_of : PySem.W.keepIn K (.ref f_leaf_of) = true)
    {f__law_cell_at : Addr} {od__law_cell_at an__law_cell_at : Option Addr} {sl__law_cell_at : Array (Option Value)} {oc__law_cell_at kV__law_cell_at dc__law_cell_at pm__law_cell_at cd__law_cell_at ct__law_cell_at : Value}
    (a__law_cell_at : PySem.W.nsIn K mainGlobals "_law_cell_at" = some (some (.ref f__law_cell_at))) (l__law_cell_at : K.lookup f__law_cell_at = some ⟨oc__law_cell_at, od__law_cell_at, .func (PySem.W.fnOf "_law_cell_at" "_law_cell_at" (defArgs s__law_cell_at) (defBody s__law_cell_at) (defScope s__law_cell_at) .none kV__law_cell_at dc__law_cell_at pm__law_cell_at an__law_cell_at cd__law_cell_at ct__law_cell_at), sl__law_cell_at⟩) (c__law_cell_at : PySem.W.codeIn K cd__law_cell_at "_law_cell_at" = true) (k__law_cell_at : PySem.W.keepIn K (.ref f__law_cell_at) = true)
    {f__law_well : Addr} {od__law_well an__law_well : Option Addr} {sl__law_well : Array (Option Value)} {oc__law_well kV__law_well dc__law_well pm__law_well cd__law_well ct__law_well : Value}
    (a__law_well : PySem.W.nsIn K mainGlobals "_law_well" = some (some (.ref f__law_well))) (l__law_well : K.lookup f__law_well = some ⟨oc__law_well, od__law_well, .func (PySem.W.fnOf "_law_well" "_law_well" (defArgs s__law_well) (defBody s__law_well) (defScope s__law_well) .none kV__law_well dc__law_well pm__law_well an__law_well cd__law_well ct__law_well), sl__law_well⟩) (c__law_well : PySem.W.codeIn K cd__law_well "_law_well" = true) (k__law_well : PySem.W.keepIn K (.ref f__law_well) = true)
    {f__law_draw : Addr} {od__law_draw an__law_draw : Option Addr} {sl__law_draw : Array (Option Value)} {oc__law_draw kV__law_draw dc__law_draw pm__law_draw cd__law_draw ct__law_draw : Value}
    (a__law_draw : PySem.W.nsIn K mainGlobals "_law_draw" = some (some (.ref f__law_draw))) (l__law_draw : K.lookup f__law_draw = some ⟨oc__law_draw, od__law_draw, .func (PySem.W.fnOf "_law_draw" "_law_draw" (defArgs s__law_draw) (defBody s__law_draw) (defScope s__law_draw) .none kV__law_draw dc__law_draw pm__law_draw an__law_draw cd__law_draw ct__law_draw), sl__law_draw⟩) (c__law_draw : PySem.W.codeIn K cd__law_draw "_law_draw" = true) (k__law_draw : PySem.W.keepIn K (.ref f__law_draw) = true)
    {f__law_whole : Addr} {od__law_whole an__law_whole : Option Addr} {sl__law_whole : Array (Option Value)} {oc__law_whole kV__law_whole dc__law_whole pm__law_whole cd__law_whole ct__law_whole : Value}
    (a__law_whole : PySem.W.nsIn K mainGlobals "_law_whole" = some (some (.ref f__law_whole))) (l__law_whole : K.lookup f__law_whole = some ⟨oc__law_whole, od__law_whole, .func (PySem.W.fnOf "_law_whole" "_law_whole" (defArgs s__law_whole) (defBody s__law_whole) (defScope s__law_whole) .none kV__law_whole dc__law_whole pm__law_whole an__law_whole cd__law_whole ct__law_whole), sl__law_whole⟩) (c__law_whole : PySem.W.codeIn K cd__law_whole "_law_whole" = true) (k__law_whole : PySem.W.keepIn K (.ref f__law_whole) = true)
    {f__law_back : Addr} {od__law_back an__law_back : Option Addr} {sl__law_back : Array (Option Value)} {oc__law_back kV__law_back dc__law_back pm__law_back cd__law_back ct__law_back : Value}
    (a__law_back : PySem.W.nsIn K mainGlobals "_law_back" = some (some (.ref f__law_back))) (l__law_back : K.lookup f__law_back = some ⟨oc__law_back, od__law_back, .func (PySem.W.fnOf "_law_back" "_law_back" (defArgs s__law_back) (defBody s__law_back) (defScope s__law_back) .none kV__law_back dc__law_back pm__law_back an__law_back cd__law_back ct__law_back), sl__law_back⟩) (c__law_back : PySem.W.codeIn K cd__law_back "_law_back" = true) (k__law_back : PySem.W.keepIn K (.ref f__law_back) = true)
    {f__law_rule : Addr} {od__law_rule an__law_rule : Option Addr} {sl__law_rule : Array (Option Value)} {oc__law_rule kV__law_rule dc__law_rule pm__law_rule cd__law_rule ct__law_rule : Value}
    (a__law_rule : PySem.W.nsIn K mainGlobals "_law_rule" = some (some (.ref f__law_rule))) (l__law_rule : K.lookup f__law_rule = some ⟨oc__law_rule, od__law_rule, .func (PySem.W.fnOf "_law_rule" "_law_rule" (defArgs s__law_rule) (defBody s__law_rule) (defScope s__law_rule) .none kV__law_rule dc__law_rule pm__law_rule an__law_rule cd__law_rule ct__law_rule), sl__law_rule⟩) (c__law_rule : PySem.W.codeIn K cd__law_rule "_law_rule" = true) (k__law_rule : PySem.W.keepIn K (.ref f__law_rule) = true)
    {f__law_leaf : Addr} {od__law_leaf an__law_leaf : Option Addr} {sl__law_leaf : Array (Option Value)} {oc__law_leaf kV__law_leaf dc__law_leaf pm__law_leaf cd__law_leaf ct__law_leaf : Value}
    (a__law_leaf : PySem.W.nsIn K mainGlobals "_law_leaf" = some (some (.ref f__law_leaf))) (l__law_leaf : K.lookup f__law_leaf = some ⟨oc__law_leaf, od__law_leaf, .func (PySem.W.fnOf "_law_leaf" "_law_leaf" (defArgs s__law_leaf) (defBody s__law_leaf) (defScope s__law_leaf) .none kV__law_leaf dc__law_leaf pm__law_leaf an__law_leaf cd__law_leaf ct__law_leaf), sl__law_leaf⟩) (c__law_leaf : PySem.W.codeIn K cd__law_leaf "_law_leaf" = true) (k__law_leaf : PySem.W.keepIn K (.ref f__law_leaf) = true)
    {f__law_slots : Addr} {od__law_slots an__law_slots : Option Addr} {sl__law_slots : Array (Option Value)} {oc__law_slots kV__law_slots dc__law_slots pm__law_slots cd__law_slots ct__law_slots : Value}
    (a__law_slots : PySem.W.nsIn K mainGlobals "_law_slots" = some (some (.ref f__law_slots))) (l__law_slots : K.lookup f__law_slots = some ⟨oc__law_slots, od__law_slots, .func (PySem.W.fnOf "_law_slots" "_law_slots" (defArgs s__law_slots) (defBody s__law_slots) (defScope s__law_slots) .none kV__law_slots dc__law_slots pm__law_slots an__law_slots cd__law_slots ct__law_slots), sl__law_slots⟩) (c__law_slots : PySem.W.codeIn K cd__law_slots "_law_slots" = true) (k__law_slots : PySem.W.keepIn K (.ref f__law_slots) = true)
    {f__law_leaves : Addr} {od__law_leaves an__law_leaves : Option Addr} {sl__law_leaves : Array (Option Value)} {oc__law_leaves kV__law_leaves dc__law_leaves pm__law_leaves cd__law_leaves ct__law_leaves : Value}
    (a__law_leaves : PySem.W.nsIn K mainGlobals "_law_leaves" = some (some (.ref f__law_leaves))) (l__law_leaves : K.lookup f__law_leaves = some ⟨oc__law_leaves, od__law_leaves, .func (PySem.W.fnOf "_law_leaves" "_law_leaves" (defArgs s__law_leaves) (defBody s__law_leaves) (defScope s__law_leaves) .none kV__law_leaves dc__law_leaves pm__law_leaves an__law_leaves cd__law_leaves ct__law_leaves), sl__law_leaves⟩) (c__law_leaves : PySem.W.codeIn K cd__law_leaves "_law_leaves" = true) (k__law_leaves : PySem.W.keepIn K (.ref f__law_leaves) = true)
    {f__law_needs : Addr} {od__law_needs an__law_needs : Option Addr} {sl__law_needs : Array (Option Value)} {oc__law_needs kV__law_needs dc__law_needs pm__law_needs cd__law_needs ct__law_needs : Value}
    (a__law_needs : PySem.W.nsIn K mainGlobals "_law_needs" = some (some (.ref f__law_needs))) (l__law_needs : K.lookup f__law_needs = some ⟨oc__law_needs, od__law_needs, .func (PySem.W.fnOf "_law_needs" "_law_needs" (defArgs s__law_needs) (defBody s__law_needs) (defScope s__law_needs) .none kV__law_needs dc__law_needs pm__law_needs an__law_needs cd__law_needs ct__law_needs), sl__law_needs⟩) (c__law_needs : PySem.W.codeIn K cd__law_needs "_law_needs" = true) (k__law_needs : PySem.W.keepIn K (.ref f__law_needs) = true)
    {f__law_came : Addr} {od__law_came an__law_came : Option Addr} {sl__law_came : Array (Option Value)} {oc__law_came kV__law_came dc__law_came pm__law_came cd__law_came ct__law_came : Value}
    (a__law_came : PySem.W.nsIn K mainGlobals "_law_came" = some (some (.ref f__law_came))) (l__law_came : K.lookup f__law_came = some ⟨oc__law_came, od__law_came, .func (PySem.W.fnOf "_law_came" "_law_came" (defArgs s__law_came) (defBody s__law_came) (defScope s__law_came) .none kV__law_came dc__law_came pm__law_came an__law_came cd__law_came ct__law_came), sl__law_came⟩) (c__law_came : PySem.W.codeIn K cd__law_came "_law_came" = true) (k__law_came : PySem.W.keepIn K (.ref f__law_came) = true)
    {f__law_all_came : Addr} {od__law_all_came an__law_all_came : Option Addr} {sl__law_all_came : Array (Option Value)} {oc__law_all_came kV__law_all_came dc__law_all_came pm__law_all_came cd__law_all_came ct__law_all_came : Value}
    (a__law_all_came : PySem.W.nsIn K mainGlobals "_law_all_came" = some (some (.ref f__law_all_came))) (l__law_all_came : K.lookup f__law_all_came = some ⟨oc__law_all_came, od__law_all_came, .func (PySem.W.fnOf "_law_all_came" "_law_all_came" (defArgs s__law_all_came) (defBody s__law_all_came) (defScope s__law_all_came) .none kV__law_all_came dc__law_all_came pm__law_all_came an__law_all_came cd__law_all_came ct__law_all_came), sl__law_all_came⟩) (c__law_all_came : PySem.W.codeIn K cd__law_all_came "_law_all_came" = true) (k__law_all_came : PySem.W.keepIn K (.ref f__law_all_came) = true)
    {f__law_way : Addr} {od__law_way an__law_way : Option Addr} {sl__law_way : Array (Option Value)} {oc__law_way kV__law_way dc__law_way pm__law_way cd__law_way ct__law_way : Value}
    (a__law_way : PySem.W.nsIn K mainGlobals "_law_way" = some (some (.ref f__law_way))) (l__law_way : K.lookup f__law_way = some ⟨oc__law_way, od__law_way, .func (PySem.W.fnOf "_law_way" "_law_way" (defArgs s__law_way) (defBody s__law_way) (defScope s__law_way) .none kV__law_way dc__law_way pm__law_way an__law_way cd__law_way ct__law_way), sl__law_way⟩) (c__law_way : PySem.W.codeIn K cd__law_way "_law_way" = true) (k__law_way : PySem.W.keepIn K (.ref f__law_way) = true)
    {f__law_way_right : Addr} {od__law_way_right an__law_way_right : Option Addr} {sl__law_way_right : Array (Option Value)} {oc__law_way_right kV__law_way_right dc__law_way_right pm__law_way_right cd__law_way_right ct__law_way_right : Value}
    (a__law_way_right : PySem.W.nsIn K mainGlobals "_law_way_right" = some (some (.ref f__law_way_right))) (l__law_way_right : K.lookup f__law_way_right = some ⟨oc__law_way_right, od__law_way_right, .func (PySem.W.fnOf "_law_way_right" "_law_way_right" (defArgs s__law_way_right) (defBody s__law_way_right) (defScope s__law_way_right) .none kV__law_way_right dc__law_way_right pm__law_way_right an__law_way_right cd__law_way_right ct__law_way_right), sl__law_way_right⟩) (c__law_way_right : PySem.W.codeIn K cd__law_way_right "_law_way_right" = true) (k__law_way_right : PySem.W.keepIn K (.ref f__law_way_right) = true)
    {f__law_asked : Addr} {od__law_asked an__law_asked : Option Addr} {sl__law_asked : Array (Option Value)} {oc__law_asked kV__law_asked dc__law_asked pm__law_asked cd__law_asked ct__law_asked : Value}
    (a__law_asked : PySem.W.nsIn K mainGlobals "_law_asked" = some (some (.ref f__law_asked))) (l__law_asked : K.lookup f__law_asked = some ⟨oc__law_asked, od__law_asked, .func (PySem.W.fnOf "_law_asked" "_law_asked" (defArgs s__law_asked) (defBody s__law_asked) (defScope s__law_asked) .none kV__law_asked dc__law_asked pm__law_asked an__law_asked cd__law_asked ct__law_asked), sl__law_asked⟩) (c__law_asked : PySem.W.codeIn K cd__law_asked "_law_asked" = true) (k__law_asked : PySem.W.keepIn K (.ref f__law_asked) = true)
    {f__law_chain : Addr} {od__law_chain an__law_chain : Option Addr} {sl__law_chain : Array (Option Value)} {oc__law_chain kV__law_chain dc__law_chain pm__law_chain cd__law_chain ct__law_chain : Value}
    (a__law_chain : PySem.W.nsIn K mainGlobals "_law_chain" = some (some (.ref f__law_chain))) (l__law_chain : K.lookup f__law_chain = some ⟨oc__law_chain, od__law_chain, .func (PySem.W.fnOf "_law_chain" "_law_chain" (defArgs s__law_chain) (defBody s__law_chain) (defScope s__law_chain) .none kV__law_chain dc__law_chain pm__law_chain an__law_chain cd__law_chain ct__law_chain), sl__law_chain⟩) (c__law_chain : PySem.W.codeIn K cd__law_chain "_law_chain" = true) (k__law_chain : PySem.W.keepIn K (.ref f__law_chain) = true)
    {f__law_chain_right : Addr} {od__law_chain_right an__law_chain_right : Option Addr} {sl__law_chain_right : Array (Option Value)} {oc__law_chain_right kV__law_chain_right dc__law_chain_right pm__law_chain_right cd__law_chain_right ct__law_chain_right : Value}
    (a__law_chain_right : PySem.W.nsIn K mainGlobals "_law_chain_right" = some (some (.ref f__law_chain_right))) (l__law_chain_right : K.lookup f__law_chain_right = some ⟨oc__law_chain_right, od__law_chain_right, .func (PySem.W.fnOf "_law_chain_right" "_law_chain_right" (defArgs s__law_chain_right) (defBody s__law_chain_right) (defScope s__law_chain_right) .none kV__law_chain_right dc__law_chain_right pm__law_chain_right an__law_chain_right cd__law_chain_right ct__law_chain_right), sl__law_chain_right⟩) (c__law_chain_right : PySem.W.codeIn K cd__law_chain_right "_law_chain_right" = true) (k__law_chain_right : PySem.W.keepIn K (.ref f__law_chain_right) = true)
    {f_law : Addr} {od_law an_law : Option Addr} {sl_law : Array (Option Value)} {oc_law kV_law dc_law pm_law cd_law ct_law : Value}
    (a_law : PySem.W.nsIn K mainGlobals "law" = some (some (.ref f_law))) (l_law : K.lookup f_law = some ⟨oc_law, od_law, .func (PySem.W.fnOf "law" "law" (defArgs s_law) (defBody s_law) (defScope s_law) .none kV_law dc_law pm_law an_law cd_law ct_law), sl_law⟩) (c_law : PySem.W.codeIn K cd_law "law" = true) (k_law : PySem.W.keepIn K (.ref f_law) = true)
    {f_Plain__needs : Addr} {od_Plain__needs an_Plain__needs : Option Addr} {sl_Plain__needs : Array (Option Value)} {oc_Plain__needs kV_Plain__needs dc_Plain__needs pm_Plain__needs cd_Plain__needs ct_Plain__needs : Value}
    (a_Plain__needs : PySem.W.findIn K (.ref C_Plain) "needs" = some (some (.ref f_Plain__needs))) (fn_Plain__needs : PySem.W.isFn K (.ref f_Plain__needs) = true) (l_Plain__needs : K.lookup f_Plain__needs = some ⟨oc_Plain__needs, od_Plain__needs, .func (PySem.W.fnOf "needs" "Rule.needs" (defArgs s_Plain__needs) (defBody s_Plain__needs) (defScope s_Plain__needs) .none kV_Plain__needs dc_Plain__needs pm_Plain__needs an_Plain__needs cd_Plain__needs ct_Plain__needs), sl_Plain__needs⟩) (c_Plain__needs : PySem.W.codeIn K cd_Plain__needs "Rule.needs" = true) (k_Plain__needs : PySem.W.keepIn K (.ref f_Plain__needs) = true)
    {f_Plain__value : Addr} {od_Plain__value an_Plain__value : Option Addr} {sl_Plain__value : Array (Option Value)} {oc_Plain__value kV_Plain__value dc_Plain__value pm_Plain__value cd_Plain__value ct_Plain__value : Value}
    (a_Plain__value : PySem.W.findIn K (.ref C_Plain) "value" = some (some (.ref f_Plain__value))) (fn_Plain__value : PySem.W.isFn K (.ref f_Plain__value) = true) (l_Plain__value : K.lookup f_Plain__value = some ⟨oc_Plain__value, od_Plain__value, .func (PySem.W.fnOf "value" "Plain.value" (defArgs s_Plain__value) (defBody s_Plain__value) (defScope s_Plain__value) .none kV_Plain__value dc_Plain__value pm_Plain__value an_Plain__value cd_Plain__value ct_Plain__value), sl_Plain__value⟩) (c_Plain__value : PySem.W.codeIn K cd_Plain__value "Plain.value" = true) (k_Plain__value : PySem.W.keepIn K (.ref f_Plain__value) = true)
    {f_Plain____init__ : Addr} {od_Plain____init__ an_Plain____init__ : Option Addr} {sl_Plain____init__ : Array (Option Value)} {oc_Plain____init__ kV_Plain____init__ dc_Plain____init__ pm_Plain____init__ cd_Plain____init__ ct_Plain____init__ : Value}
    (a_Plain____init__ : PySem.W.findIn K (.ref C_Plain) "__init__" = some (some (.ref f_Plain____init__))) (fn_Plain____init__ : PySem.W.isFn K (.ref f_Plain____init__) = true) (l_Plain____init__ : K.lookup f_Plain____init__ = some ⟨oc_Plain____init__, od_Plain____init__, .func (PySem.W.fnOf "__init__" "Plain.__init__" (defArgs s_Plain____init__) (defBody s_Plain____init__) (defScope s_Plain____init__) .none kV_Plain____init__ dc_Plain____init__ pm_Plain____init__ an_Plain____init__ cd_Plain____init__ ct_Plain____init__), sl_Plain____init__⟩) (c_Plain____init__ : PySem.W.codeIn K cd_Plain____init__ "Plain.__init__" = true) (k_Plain____init__ : PySem.W.keepIn K (.ref f_Plain____init__) = true)
    {f_Moved__needs : Addr} {od_Moved__needs an_Moved__needs : Option Addr} {sl_Moved__needs : Array (Option Value)} {oc_Moved__needs kV_Moved__needs dc_Moved__needs pm_Moved__needs cd_Moved__needs ct_Moved__needs : Value}
    (a_Moved__needs : PySem.W.findIn K (.ref C_Moved) "needs" = some (some (.ref f_Moved__needs))) (fn_Moved__needs : PySem.W.isFn K (.ref f_Moved__needs) = true) (l_Moved__needs : K.lookup f_Moved__needs = some ⟨oc_Moved__needs, od_Moved__needs, .func (PySem.W.fnOf "needs" "Moved.needs" (defArgs s_Moved__needs) (defBody s_Moved__needs) (defScope s_Moved__needs) .none kV_Moved__needs dc_Moved__needs pm_Moved__needs an_Moved__needs cd_Moved__needs ct_Moved__needs), sl_Moved__needs⟩) (c_Moved__needs : PySem.W.codeIn K cd_Moved__needs "Moved.needs" = true) (k_Moved__needs : PySem.W.keepIn K (.ref f_Moved__needs) = true)
    {f_Moved__value : Addr} {od_Moved__value an_Moved__value : Option Addr} {sl_Moved__value : Array (Option Value)} {oc_Moved__value kV_Moved__value dc_Moved__value pm_Moved__value cd_Moved__value ct_Moved__value : Value}
    (a_Moved__value : PySem.W.findIn K (.ref C_Moved) "value" = some (some (.ref f_Moved__value))) (fn_Moved__value : PySem.W.isFn K (.ref f_Moved__value) = true) (l_Moved__value : K.lookup f_Moved__value = some ⟨oc_Moved__value, od_Moved__value, .func (PySem.W.fnOf "value" "Moved.value" (defArgs s_Moved__value) (defBody s_Moved__value) (defScope s_Moved__value) .none kV_Moved__value dc_Moved__value pm_Moved__value an_Moved__value cd_Moved__value ct_Moved__value), sl_Moved__value⟩) (c_Moved__value : PySem.W.codeIn K cd_Moved__value "Moved.value" = true) (k_Moved__value : PySem.W.keepIn K (.ref f_Moved__value) = true)
    {f_Moved____init__ : Addr} {od_Moved____init__ an_Moved____init__ : Option Addr} {sl_Moved____init__ : Array (Option Value)} {oc_Moved____init__ kV_Moved____init__ dc_Moved____init__ pm_Moved____init__ cd_Moved____init__ ct_Moved____init__ : Value}
    (a_Moved____init__ : PySem.W.findIn K (.ref C_Moved) "__init__" = some (some (.ref f_Moved____init__))) (fn_Moved____init__ : PySem.W.isFn K (.ref f_Moved____init__) = true) (l_Moved____init__ : K.lookup f_Moved____init__ = some ⟨oc_Moved____init__, od_Moved____init__, .func (PySem.W.fnOf "__init__" "Moved.__init__" (defArgs s_Moved____init__) (defBody s_Moved____init__) (defScope s_Moved____init__) .none kV_Moved____init__ dc_Moved____init__ pm_Moved____init__ an_Moved____init__ cd_Moved____init__ ct_Moved____init__), sl_Moved____init__⟩) (c_Moved____init__ : PySem.W.codeIn K cd_Moved____init__ "Moved.__init__" = true) (k_Moved____init__ : PySem.W.keepIn K (.ref f_Moved____init__) = true)
    {f_Mixed__needs : Addr} {od_Mixed__needs an_Mixed__needs : Option Addr} {sl_Mixed__needs : Array (Option Value)} {oc_Mixed__needs kV_Mixed__needs dc_Mixed__needs pm_Mixed__needs cd_Mixed__needs ct_Mixed__needs : Value}
    (a_Mixed__needs : PySem.W.findIn K (.ref C_Mixed) "needs" = some (some (.ref f_Mixed__needs))) (fn_Mixed__needs : PySem.W.isFn K (.ref f_Mixed__needs) = true) (l_Mixed__needs : K.lookup f_Mixed__needs = some ⟨oc_Mixed__needs, od_Mixed__needs, .func (PySem.W.fnOf "needs" "Mixed.needs" (defArgs s_Mixed__needs) (defBody s_Mixed__needs) (defScope s_Mixed__needs) .none kV_Mixed__needs dc_Mixed__needs pm_Mixed__needs an_Mixed__needs cd_Mixed__needs ct_Mixed__needs), sl_Mixed__needs⟩) (c_Mixed__needs : PySem.W.codeIn K cd_Mixed__needs "Mixed.needs" = true) (k_Mixed__needs : PySem.W.keepIn K (.ref f_Mixed__needs) = true)
    {f_Mixed__value : Addr} {od_Mixed__value an_Mixed__value : Option Addr} {sl_Mixed__value : Array (Option Value)} {oc_Mixed__value kV_Mixed__value dc_Mixed__value pm_Mixed__value cd_Mixed__value ct_Mixed__value : Value}
    (a_Mixed__value : PySem.W.findIn K (.ref C_Mixed) "value" = some (some (.ref f_Mixed__value))) (fn_Mixed__value : PySem.W.isFn K (.ref f_Mixed__value) = true) (l_Mixed__value : K.lookup f_Mixed__value = some ⟨oc_Mixed__value, od_Mixed__value, .func (PySem.W.fnOf "value" "Mixed.value" (defArgs s_Mixed__value) (defBody s_Mixed__value) (defScope s_Mixed__value) .none kV_Mixed__value dc_Mixed__value pm_Mixed__value an_Mixed__value cd_Mixed__value ct_Mixed__value), sl_Mixed__value⟩) (c_Mixed__value : PySem.W.codeIn K cd_Mixed__value "Mixed.value" = true) (k_Mixed__value : PySem.W.keepIn K (.ref f_Mixed__value) = true)
    {f_Mixed____init__ : Addr} {od_Mixed____init__ an_Mixed____init__ : Option Addr} {sl_Mixed____init__ : Array (Option Value)} {oc_Mixed____init__ kV_Mixed____init__ dc_Mixed____init__ pm_Mixed____init__ cd_Mixed____init__ ct_Mixed____init__ : Value}
    (a_Mixed____init__ : PySem.W.findIn K (.ref C_Mixed) "__init__" = some (some (.ref f_Mixed____init__))) (fn_Mixed____init__ : PySem.W.isFn K (.ref f_Mixed____init__) = true) (l_Mixed____init__ : K.lookup f_Mixed____init__ = some ⟨oc_Mixed____init__, od_Mixed____init__, .func (PySem.W.fnOf "__init__" "Mixed.__init__" (defArgs s_Mixed____init__) (defBody s_Mixed____init__) (defScope s_Mixed____init__) .none kV_Mixed____init__ dc_Mixed____init__ pm_Mixed____init__ an_Mixed____init__ cd_Mixed____init__ ct_Mixed____init__), sl_Mixed____init__⟩) (c_Mixed____init__ : PySem.W.codeIn K cd_Mixed____init__ "Mixed.__init__" = true) (k_Mixed____init__ : PySem.W.keepIn K (.ref f_Mixed____init__) = true)
    {f_Full__rule : Addr} {od_Full__rule an_Full__rule : Option Addr} {sl_Full__rule : Array (Option Value)} {oc_Full__rule kV_Full__rule dc_Full__rule pm_Full__rule cd_Full__rule ct_Full__rule : Value}
    (a_Full__rule : PySem.W.findIn K (.ref C_Full) "rule" = some (some (.ref f_Full__rule))) (fn_Full__rule : PySem.W.isFn K (.ref f_Full__rule) = true) (l_Full__rule : K.lookup f_Full__rule = some ⟨oc_Full__rule, od_Full__rule, .func (PySem.W.fnOf "rule" "Full.rule" (defArgs s_Full__rule) (defBody s_Full__rule) (defScope s_Full__rule) .none kV_Full__rule dc_Full__rule pm_Full__rule an_Full__rule cd_Full__rule ct_Full__rule), sl_Full__rule⟩) (c_Full__rule : PySem.W.codeIn K cd_Full__rule "Full.rule" = true) (k_Full__rule : PySem.W.keepIn K (.ref f_Full__rule) = true)
    {f_Full____init__ : Addr} {od_Full____init__ an_Full____init__ : Option Addr} {sl_Full____init__ : Array (Option Value)} {oc_Full____init__ kV_Full____init__ dc_Full____init__ pm_Full____init__ cd_Full____init__ ct_Full____init__ : Value}
    (a_Full____init__ : PySem.W.findIn K (.ref C_Full) "__init__" = some (some (.ref f_Full____init__))) (fn_Full____init__ : PySem.W.isFn K (.ref f_Full____init__) = true) (l_Full____init__ : K.lookup f_Full____init__ = some ⟨oc_Full____init__, od_Full____init__, .func (PySem.W.fnOf "__init__" "Full.__init__" (defArgs s_Full____init__) (defBody s_Full____init__) (defScope s_Full____init__) .none kV_Full____init__ dc_Full____init__ pm_Full____init__ an_Full____init__ cd_Full____init__ ct_Full____init__), sl_Full____init__⟩) (c_Full____init__ : PySem.W.codeIn K cd_Full____init__ "Full.__init__" = true) (k_Full____init__ : PySem.W.keepIn K (.ref f_Full____init__) = true)
    {f_Still__rule : Addr} {od_Still__rule an_Still__rule : Option Addr} {sl_Still__rule : Array (Option Value)} {oc_Still__rule kV_Still__rule dc_Still__rule pm_Still__rule cd_Still__rule ct_Still__rule : Value}
    (a_Still__rule : PySem.W.findIn K (.ref C_Still) "rule" = some (some (.ref f_Still__rule))) (fn_Still__rule : PySem.W.isFn K (.ref f_Still__rule) = true) (l_Still__rule : K.lookup f_Still__rule = some ⟨oc_Still__rule, od_Still__rule, .func (PySem.W.fnOf "rule" "Still.rule" (defArgs s_Still__rule) (defBody s_Still__rule) (defScope s_Still__rule) .none kV_Still__rule dc_Still__rule pm_Still__rule an_Still__rule cd_Still__rule ct_Still__rule), sl_Still__rule⟩) (c_Still__rule : PySem.W.codeIn K cd_Still__rule "Still.rule" = true) (k_Still__rule : PySem.W.keepIn K (.ref f_Still__rule) = true)
    {f_Still____init__ : Addr} {od_Still____init__ an_Still____init__ : Option Addr} {sl_Still____init__ : Array (Option Value)} {oc_Still____init__ kV_Still____init__ dc_Still____init__ pm_Still____init__ cd_Still____init__ ct_Still____init__ : Value}
    (a_Still____init__ : PySem.W.findIn K (.ref C_Still) "__init__" = some (some (.ref f_Still____init__))) (fn_Still____init__ : PySem.W.isFn K (.ref f_Still____init__) = true) (l_Still____init__ : K.lookup f_Still____init__ = some ⟨oc_Still____init__, od_Still____init__, .func (PySem.W.fnOf "__init__" "Still.__init__" (defArgs s_Still____init__) (defBody s_Still____init__) (defScope s_Still____init__) .none kV_Still____init__ dc_Still____init__ pm_Still____init__ an_Still____init__ cd_Still____init__ ct_Still____init__), sl_Still____init__⟩) (c_Still____init__ : PySem.W.codeIn K cd_Still____init__ "Still.__init__" = true) (k_Still____init__ : PySem.W.keepIn K (.ref f_Still____init__) = true)
    {f_Woven__rule : Addr} {od_Woven__rule an_Woven__rule : Option Addr} {sl_Woven__rule : Array (Option Value)} {oc_Woven__rule kV_Woven__rule dc_Woven__rule pm_Woven__rule cd_Woven__rule ct_Woven__rule : Value}
    (a_Woven__rule : PySem.W.findIn K (.ref C_Woven) "rule" = some (some (.ref f_Woven__rule))) (fn_Woven__rule : PySem.W.isFn K (.ref f_Woven__rule) = true) (l_Woven__rule : K.lookup f_Woven__rule = some ⟨oc_Woven__rule, od_Woven__rule, .func (PySem.W.fnOf "rule" "Woven.rule" (defArgs s_Woven__rule) (defBody s_Woven__rule) (defScope s_Woven__rule) .none kV_Woven__rule dc_Woven__rule pm_Woven__rule an_Woven__rule cd_Woven__rule ct_Woven__rule), sl_Woven__rule⟩) (c_Woven__rule : PySem.W.codeIn K cd_Woven__rule "Woven.rule" = true) (k_Woven__rule : PySem.W.keepIn K (.ref f_Woven__rule) = true)
    {f_Woven____init__ : Addr} {od_Woven____init__ an_Woven____init__ : Option Addr} {sl_Woven____init__ : Array (Option Value)} {oc_Woven____init__ kV_Woven____init__ dc_Woven____init__ pm_Woven____init__ cd_Woven____init__ ct_Woven____init__ : Value}
    (a_Woven____init__ : PySem.W.findIn K (.ref C_Woven) "__init__" = some (some (.ref f_Woven____init__))) (fn_Woven____init__ : PySem.W.isFn K (.ref f_Woven____init__) = true) (l_Woven____init__ : K.lookup f_Woven____init__ = some ⟨oc_Woven____init__, od_Woven____init__, .func (PySem.W.fnOf "__init__" "Woven.__init__" (defArgs s_Woven____init__) (defBody s_Woven____init__) (defScope s_Woven____init__) .none kV_Woven____init__ dc_Woven____init__ pm_Woven____init__ an_Woven____init__ cd_Woven____init__ ct_Woven____init__), sl_Woven____init__⟩) (c_Woven____init__ : PySem.W.codeIn K cd_Woven____init__ "Woven.__init__" = true) (k_Woven____init__ : PySem.W.keepIn K (.ref f_Woven____init__) = true)
    {f_NotKnown____init__ : Addr} {od_NotKnown____init__ an_NotKnown____init__ : Option Addr} {sl_NotKnown____init__ : Array (Option Value)} {oc_NotKnown____init__ kV_NotKnown____init__ dc_NotKnown____init__ pm_NotKnown____init__ cd_NotKnown____init__ ct_NotKnown____init__ : Value}
    (a_NotKnown____init__ : PySem.W.findIn K (.ref C_NotKnown) "__init__" = some (some (.ref f_NotKnown____init__))) (fn_NotKnown____init__ : PySem.W.isFn K (.ref f_NotKnown____init__) = true) (l_NotKnown____init__ : K.lookup f_NotKnown____init__ = some ⟨oc_NotKnown____init__, od_NotKnown____init__, .func (PySem.W.fnOf "__init__" "NotKnown.__init__" (defArgs s_NotKnown____init__) (defBody s_NotKnown____init__) (defScope s_NotKnown____init__) .none kV_NotKnown____init__ dc_NotKnown____init__ pm_NotKnown____init__ an_NotKnown____init__ cd_NotKnown____init__ ct_NotKnown____init__), sl_NotKnown____init__⟩) (c_NotKnown____init__ : PySem.W.codeIn K cd_NotKnown____init__ "NotKnown.__init__" = true) (k_NotKnown____init__ : PySem.W.keepIn K (.ref f_NotKnown____init__) = true)
    {f_Leaf____init__ : Addr} {od_Leaf____init__ an_Leaf____init__ : Option Addr} {sl_Leaf____init__ : Array (Option Value)} {oc_Leaf____init__ kV_Leaf____init__ dc_Leaf____init__ pm_Leaf____init__ cd_Leaf____init__ ct_Leaf____init__ : Value}
    (a_Leaf____init__ : PySem.W.findIn K (.ref C_Leaf) "__init__" = some (some (.ref f_Leaf____init__))) (fn_Leaf____init__ : PySem.W.isFn K (.ref f_Leaf____init__) = true) (l_Leaf____init__ : K.lookup f_Leaf____init__ = some ⟨oc_Leaf____init__, od_Leaf____init__, .func (PySem.W.fnOf "__init__" "Leaf.__init__" (defArgs s_Leaf____init__) (defBody s_Leaf____init__) (defScope s_Leaf____init__) .none kV_Leaf____init__ dc_Leaf____init__ pm_Leaf____init__ an_Leaf____init__ cd_Leaf____init__ ct_Leaf____init__), sl_Leaf____init__⟩) (c_Leaf____init__ : PySem.W.codeIn K cd_Leaf____init__ "Leaf.__init__" = true) (k_Leaf____init__ : PySem.W.keepIn K (.ref f_Leaf____init__) = true)
    (rd_Leaf : PySem.W.readsIn K C_Leaf (.type "type") = true) (ga_Leaf : PySem.W.specialIn K (.ref C_Leaf) "__getattribute__" = some (some (.builtin "type.__getattribute__"))) (fc_Leaf : PySem.W.findCls K (.ref C_Leaf) (.type "type") "__init__" = some (.val (.ref f_Leaf____init__)))
    {C_NoCell : Addr}
    (xca_NoCell : PySem.W.nsIn K mainGlobals "NoCell" = some (some (.ref C_NoCell)))
    (xchg_NoCell : PySem.W.findIn K (.ref C_NoCell) "__getattribute__" = some (some (.builtin "BaseException.__getattribute__")))
    (xchk_NoCell : PySem.W.findIn K (.ref C_NoCell) "__getattr__" = some none)
    (xchs_NoCell : PySem.W.subIn K (.ref C_NoCell) (.type "BaseException") = some true)
    (xchd_NoCell : PySem.W.hasDictIn K C_NoCell = true)
    (xcha_NoCell : PySem.W.findIn K (.ref C_NoCell) "__class__" = some (some (.builtin "object.__class__")))
    (xchm_NoCell : PySem.W.mroIn K C_NoCell (.type "object") = some true)
    (xcty_NoCell : PySem.W.typeIn K (.ref C_NoCell) = some (.type "type"))
    (xckp_NoCell : PySem.W.keepIn K (.ref C_NoCell) = true)
    (xcve_NoCell : PySem.W.subIn K (.ref C_NoCell) (.type "ValueError") = some true)
    (xcis_NoCell : PySem.W.isClsIn K C_NoCell = true)
    (xcself_NoCell : PySem.W.subIn K (.ref C_NoCell) (.ref C_NoCell) = some true)
    (xcex_NoCell : PySem.W.excIn K C_NoCell [.type "ValueError", .type "Exception", .type "BaseException", .type "object"] "ValueError.__new__" = true)
    {C_NoRule : Addr}
    (xca_NoRule : PySem.W.nsIn K mainGlobals "NoRule" = some (some (.ref C_NoRule)))
    (xchg_NoRule : PySem.W.findIn K (.ref C_NoRule) "__getattribute__" = some (some (.builtin "BaseException.__getattribute__")))
    (xchk_NoRule : PySem.W.findIn K (.ref C_NoRule) "__getattr__" = some none)
    (xchs_NoRule : PySem.W.subIn K (.ref C_NoRule) (.type "BaseException") = some true)
    (xchd_NoRule : PySem.W.hasDictIn K C_NoRule = true)
    (xcha_NoRule : PySem.W.findIn K (.ref C_NoRule) "__class__" = some (some (.builtin "object.__class__")))
    (xchm_NoRule : PySem.W.mroIn K C_NoRule (.type "object") = some true)
    (xcty_NoRule : PySem.W.typeIn K (.ref C_NoRule) = some (.type "type"))
    (xckp_NoRule : PySem.W.keepIn K (.ref C_NoRule) = true)
    (xcve_NoRule : PySem.W.subIn K (.ref C_NoRule) (.type "ValueError") = some true)
    (xcis_NoRule : PySem.W.isClsIn K C_NoRule = true)
    (xcself_NoRule : PySem.W.subIn K (.ref C_NoRule) (.ref C_NoRule) = some true)
    (xcex_NoRule : PySem.W.excIn K C_NoRule [.type "ValueError", .type "Exception", .type "BaseException", .type "object"] "ValueError.__new__" = true)
    (xca_NotKnown : PySem.W.nsIn K mainGlobals "NotKnown" = some (some (.ref C_NotKnown)))
    (xchg_NotKnown : PySem.W.findIn K (.ref C_NotKnown) "__getattribute__" = some (some (.builtin "BaseException.__getattribute__")))
    (xchk_NotKnown : PySem.W.findIn K (.ref C_NotKnown) "__getattr__" = some none)
    (xchs_NotKnown : PySem.W.subIn K (.ref C_NotKnown) (.type "BaseException") = some true)
    (xchd_NotKnown : PySem.W.hasDictIn K C_NotKnown = true)
    (xcha_NotKnown : PySem.W.findIn K (.ref C_NotKnown) "__class__" = some (some (.builtin "object.__class__")))
    (xchm_NotKnown : PySem.W.mroIn K C_NotKnown (.type "object") = some true)
    (xcty_NotKnown : PySem.W.typeIn K (.ref C_NotKnown) = some (.type "type"))
    (xckp_NotKnown : PySem.W.keepIn K (.ref C_NotKnown) = true)
    (xcve_NotKnown : PySem.W.subIn K (.ref C_NotKnown) (.type "ValueError") = some true)
    (xcis_NotKnown : PySem.W.isClsIn K C_NotKnown = true)
    (xcself_NotKnown : PySem.W.subIn K (.ref C_NotKnown) (.ref C_NotKnown) = some true)
    {C_NoLeaf : Addr}
    (xca_NoLeaf : PySem.W.nsIn K mainGlobals "NoLeaf" = some (some (.ref C_NoLeaf)))
    (xchg_NoLeaf : PySem.W.findIn K (.ref C_NoLeaf) "__getattribute__" = some (some (.builtin "BaseException.__getattribute__")))
    (xchk_NoLeaf : PySem.W.findIn K (.ref C_NoLeaf) "__getattr__" = some none)
    (xchs_NoLeaf : PySem.W.subIn K (.ref C_NoLeaf) (.type "BaseException") = some true)
    (xchd_NoLeaf : PySem.W.hasDictIn K C_NoLeaf = true)
    (xcha_NoLeaf : PySem.W.findIn K (.ref C_NoLeaf) "__class__" = some (some (.builtin "object.__class__")))
    (xchm_NoLeaf : PySem.W.mroIn K C_NoLeaf (.type "object") = some true)
    (xcty_NoLeaf : PySem.W.typeIn K (.ref C_NoLeaf) = some (.type "type"))
    (xckp_NoLeaf : PySem.W.keepIn K (.ref C_NoLeaf) = true)
    (xcve_NoLeaf : PySem.W.subIn K (.ref C_NoLeaf) (.type "ValueError") = some true)
    (xcis_NoLeaf : PySem.W.isClsIn K C_NoLeaf = true)
    (xcself_NoLeaf : PySem.W.subIn K (.ref C_NoLeaf) (.ref C_NoLeaf) = some true)
    (xcex_NoLeaf : PySem.W.excIn K C_NoLeaf [.type "ValueError", .type "Exception", .type "BaseException", .type "object"] "ValueError.__new__" = true)
    {C_NoNumber : Addr}
    (xca_NoNumber : PySem.W.nsIn K mainGlobals "NoNumber" = some (some (.ref C_NoNumber)))
    (xchg_NoNumber : PySem.W.findIn K (.ref C_NoNumber) "__getattribute__" = some (some (.builtin "BaseException.__getattribute__")))
    (xchk_NoNumber : PySem.W.findIn K (.ref C_NoNumber) "__getattr__" = some none)
    (xchs_NoNumber : PySem.W.subIn K (.ref C_NoNumber) (.type "BaseException") = some true)
    (xchd_NoNumber : PySem.W.hasDictIn K C_NoNumber = true)
    (xcha_NoNumber : PySem.W.findIn K (.ref C_NoNumber) "__class__" = some (some (.builtin "object.__class__")))
    (xchm_NoNumber : PySem.W.mroIn K C_NoNumber (.type "object") = some true)
    (xcty_NoNumber : PySem.W.typeIn K (.ref C_NoNumber) = some (.type "type"))
    (xckp_NoNumber : PySem.W.keepIn K (.ref C_NoNumber) = true)
    (xcve_NoNumber : PySem.W.subIn K (.ref C_NoNumber) (.type "ValueError") = some true)
    (xcis_NoNumber : PySem.W.isClsIn K C_NoNumber = true)
    (xcself_NoNumber : PySem.W.subIn K (.ref C_NoNumber) (.ref C_NoNumber) = some true)
    (xcex_NoNumber : PySem.W.excIn K C_NoNumber [.type "ValueError", .type "Exception", .type "BaseException", .type "object"] "ValueError.__new__" = true)
    {C_NotWhole : Addr}
    (xca_NotWhole : PySem.W.nsIn K mainGlobals "NotWhole" = some (some (.ref C_NotWhole)))
    (xchg_NotWhole : PySem.W.findIn K (.ref C_NotWhole) "__getattribute__" = some (some (.builtin "BaseException.__getattribute__")))
    (xchk_NotWhole : PySem.W.findIn K (.ref C_NotWhole) "__getattr__" = some none)
    (xchs_NotWhole : PySem.W.subIn K (.ref C_NotWhole) (.type "BaseException") = some true)
    (xchd_NotWhole : PySem.W.hasDictIn K C_NotWhole = true)
    (xcha_NotWhole : PySem.W.findIn K (.ref C_NotWhole) "__class__" = some (some (.builtin "object.__class__")))
    (xchm_NotWhole : PySem.W.mroIn K C_NotWhole (.type "object") = some true)
    (xcty_NotWhole : PySem.W.typeIn K (.ref C_NotWhole) = some (.type "type"))
    (xckp_NotWhole : PySem.W.keepIn K (.ref C_NotWhole) = true)
    (xcve_NotWhole : PySem.W.subIn K (.ref C_NotWhole) (.type "ValueError") = some true)
    (xcis_NotWhole : PySem.W.isClsIn K C_NotWhole = true)
    (xcself_NotWhole : PySem.W.subIn K (.ref C_NotWhole) (.ref C_NotWhole) = some true)
    (xcex_NotWhole : PySem.W.excIn K C_NotWhole [.type "ValueError", .type "Exception", .type "BaseException", .type "object"] "ValueError.__new__" = true)
    {C_NoHead : Addr}
    (xca_NoHead : PySem.W.nsIn K mainGlobals "NoHead" = some (some (.ref C_NoHead)))
    (xchg_NoHead : PySem.W.findIn K (.ref C_NoHead) "__getattribute__" = some (some (.builtin "BaseException.__getattribute__")))
    (xchk_NoHead : PySem.W.findIn K (.ref C_NoHead) "__getattr__" = some none)
    (xchs_NoHead : PySem.W.subIn K (.ref C_NoHead) (.type "BaseException") = some true)
    (xchd_NoHead : PySem.W.hasDictIn K C_NoHead = true)
    (xcha_NoHead : PySem.W.findIn K (.ref C_NoHead) "__class__" = some (some (.builtin "object.__class__")))
    (xchm_NoHead : PySem.W.mroIn K C_NoHead (.type "object") = some true)
    (xcty_NoHead : PySem.W.typeIn K (.ref C_NoHead) = some (.type "type"))
    (xckp_NoHead : PySem.W.keepIn K (.ref C_NoHead) = true)
    (xcve_NoHead : PySem.W.subIn K (.ref C_NoHead) (.type "ValueError") = some true)
    (xcis_NoHead : PySem.W.isClsIn K C_NoHead = true)
    (xcself_NoHead : PySem.W.subIn K (.ref C_NoHead) (.ref C_NoHead) = some true)
    (xcex_NoHead : PySem.W.excIn K C_NoHead [.type "ValueError", .type "Exception", .type "BaseException", .type "object"] "ValueError.__new__" = true)
    {C_ScrollError : Addr}
    (xca_ScrollError : PySem.W.nsIn K mainGlobals "ScrollError" = some (some (.ref C_ScrollError)))
    (xchg_ScrollError : PySem.W.findIn K (.ref C_ScrollError) "__getattribute__" = some (some (.builtin "BaseException.__getattribute__")))
    (xchk_ScrollError : PySem.W.findIn K (.ref C_ScrollError) "__getattr__" = some none)
    (xchs_ScrollError : PySem.W.subIn K (.ref C_ScrollError) (.type "BaseException") = some true)
    (xchd_ScrollError : PySem.W.hasDictIn K C_ScrollError = true)
    (xcha_ScrollError : PySem.W.findIn K (.ref C_ScrollError) "__class__" = some (some (.builtin "object.__class__")))
    (xchm_ScrollError : PySem.W.mroIn K C_ScrollError (.type "object") = some true)
    (xcty_ScrollError : PySem.W.typeIn K (.ref C_ScrollError) = some (.type "type"))
    (xckp_ScrollError : PySem.W.keepIn K (.ref C_ScrollError) = true)
    (xcve_ScrollError : PySem.W.subIn K (.ref C_ScrollError) (.type "ValueError") = some true)
    (xcis_ScrollError : PySem.W.isClsIn K C_ScrollError = true)
    (xcself_ScrollError : PySem.W.subIn K (.ref C_ScrollError) (.ref C_ScrollError) = some true)
    (xcex_ScrollError : PySem.W.excIn K C_ScrollError [.type "ValueError", .type "Exception", .type "BaseException", .type "object"] "ValueError.__new__" = true)
    (xo_NotKnown : oexB K C_NotKnown = true)
    (xsa_NotKnown : PySem.W.findIn K (.ref C_NotKnown) "__setattr__" = some (some (.builtin "object.__setattr__")))
    (xti_NotKnown : PySem.W.typeIn K (.ref f_NotKnown____init__) = some (.type "function"))
    (xn1_NotKnown : PySem.W.findIn K (.ref C_NotKnown) "way" = some none)
    (yga_NotKnown : PySem.W.nsIn K mainGlobals "ScrollError" = some (some (.ref C_ScrollError)))
    (yrd_NotKnown : PySem.W.readsIn K C_ScrollError (.type "type") = true)
    (ygg_NotKnown : PySem.W.specialIn K (.ref C_ScrollError) "__getattribute__" = some (some (.builtin "type.__getattribute__")))
    (yfc_NotKnown : findBuB K (.ref C_ScrollError) (.type "type") "__init__" "ValueError.__init__" = true)
    (p_NoRule_NoRule : PySem.W.subIn K (.ref C_NoRule) (.ref C_NoRule) = some true)
    (p_NotKnown_NoCell : PySem.W.subIn K (.ref C_NotKnown) (.ref C_NoCell) = some false)
    (p_NotKnown_NoHead : PySem.W.subIn K (.ref C_NotKnown) (.ref C_NoHead) = some false)
    (p_NotKnown_NoNumber : PySem.W.subIn K (.ref C_NotKnown) (.ref C_NoNumber) = some false)
    (p_NotKnown_NotKnown : PySem.W.subIn K (.ref C_NotKnown) (.ref C_NotKnown) = some true)
    (p_NotKnown_NotWhole : PySem.W.subIn K (.ref C_NotKnown) (.ref C_NotWhole) = some false)
    (p_NotKnown_ScrollError : PySem.W.subIn K (.ref C_NotKnown) (.ref C_ScrollError) = some true)
    (xhn : PySem.W.specialIn K (.builtin "object.__class__") "__get__" = some (some (.builtin "getset_descriptor.__get__"))) (xht : PySem.W.takesIn K (.builtin "object.__class__") = some true)
    (z_list : PySem.W.nsIn K mainGlobals "list" = some none)
    (z_sorted : PySem.W.nsIn K mainGlobals "sorted" = some none)
    (z_all : PySem.W.nsIn K mainGlobals "all" = some none)
    (z_any : PySem.W.nsIn K mainGlobals "any" = some none)
    (z_isinstance : PySem.W.nsIn K mainGlobals "isinstance" = some none)
    (z_int : PySem.W.nsIn K mainGlobals "int" = some none)
    (z_bool : PySem.W.nsIn K mainGlobals "bool" = some none)
    (z_tuple : PySem.W.nsIn K mainGlobals "tuple" = some none)
    (z_len : PySem.W.nsIn K mainGlobals "len" = some none)
    (z_min : PySem.W.nsIn K mainGlobals "min" = some none)
    (z_range : PySem.W.nsIn K mainGlobals "range" = some none)
    (z_dict : PySem.W.nsIn K mainGlobals "dict" = some none)
    (z_sum : PySem.W.nsIn K mainGlobals "sum" = some none)
    : ∃ fd : FuncData, (∀ (s : Shared) (v : Value), BindsTo s fd ⟨[v], []⟩ [("_law_script", v)]) ∧ ∀ base : Heap, K.In base → base.Ns mainGlobals mg → FnOk l.prog w K mg base CX0 11 fa fd ["_law_script"] (spTop K) := by
  have e := hfa.symm.trans (PySem.W.mg_of X G a_law)
  cases e
  have F_needs_of := fun_mk (st := s_needs_of) l_needs_of c_needs_of k_needs_of
  have b_needs_of := F_needs_of.binds (ps := ["leaves", "pair"]) fun _ _ _ _ _ _ us hl => match us, hl with | [_, _], _ => rfl
  have g_needs_of := PySem.W.mg_of X G a_needs_of
  have F_hung := fun_mk (st := s_hung) l_hung c_hung k_hung
  have b_hung := F_hung.binds (ps := ["leaves", "pairs"]) fun _ _ _ _ _ _ us hl => match us, hl with | [_, _], _ => rfl
  have g_hung := PySem.W.mg_of X G a_hung
  have F_values_of := fun_mk (st := s_values_of) l_values_of c_values_of k_values_of
  have b_values_of := F_values_of.binds (ps := ["leaves", "pairs"]) fun _ _ _ _ _ _ us hl => match us, hl with | [_, _], _ => rfl
  have g_values_of := PySem.W.mg_of X G a_values_of
  have F_all_came := fun_mk (st := s_all_came) l_all_came c_all_came k_all_came
  have b_all_came := F_all_came.binds (ps := ["leaves", "pairs"]) fun _ _ _ _ _ _ us hl => match us, hl with | [_, _], _ => rfl
  have g_all_came := PySem.W.mg_of X G a_all_came
  have F_known := fun_mk (st := s_known) l_known c_known k_known
  have b_known := F_known.binds (ps := ["leaves", "number", "cell"]) fun _ _ _ _ _ _ us hl => match us, hl with | [_, _, _], _ => rfl
  have g_known := PySem.W.mg_of X G a_known
  have F_way_out := fun_mk (st := s_way_out) l_way_out c_way_out k_way_out
  have b_way_out := F_way_out.binds (ps := ["leaves", "pair", "pairs"]) fun _ _ _ _ _ _ us hl => match us, hl with | [_, _, _], _ => rfl
  have g_way_out := PySem.W.mg_of X G a_way_out
  have F_table := fun_mk (st := s_table) l_table c_table k_table
  have b_table := F_table.binds (ps := ["leaves", "number", "cell"]) fun _ _ _ _ _ _ us hl => match us, hl with | [_, _, _], _ => rfl
  have g_table := PySem.W.mg_of X G a_table
  have F_is_whole := fun_mk (st := s_is_whole) l_is_whole c_is_whole k_is_whole
  have b_is_whole := F_is_whole.binds (ps := ["thing", "low", "high"]) fun _ _ _ _ _ _ us hl => match us, hl with | [_, _, _], _ => rfl
  have g_is_whole := PySem.W.mg_of X G a_is_whole
  have F_is_need := fun_mk (st := s_is_need) l_is_need c_is_need k_is_need
  have b_is_need := F_is_need.binds (ps := ["back", "cell"]) fun _ _ _ _ _ _ us hl => match us, hl with | [_, _], _ => rfl
  have g_is_need := PySem.W.mg_of X G a_is_need
  have F_rule_of := fun_mk (st := s_rule_of) l_rule_of c_rule_of k_rule_of
  have b_rule_of := F_rule_of.binds (ps := ["told"]) fun _ _ _ _ _ _ us hl => match us, hl with | [_], _ => rfl
  have g_rule_of := PySem.W.mg_of X G a_rule_of
  have F_is_value := fun_mk (st := s_is_value) l_is_value c_is_value k_is_value
  have b_is_value := F_is_value.binds (ps := ["thing"]) fun _ _ _ _ _ _ us hl => match us, hl with | [_], _ => rfl
  have g_is_value := PySem.W.mg_of X G a_is_value
  have F_is_rule := fun_mk (st := s_is_rule) l_is_rule c_is_rule k_is_rule
  have b_is_rule := F_is_rule.binds (ps := ["thing"]) fun _ _ _ _ _ _ us hl => match us, hl with | [_], _ => rfl
  have g_is_rule := PySem.W.mg_of X G a_is_rule
  have F_is_row_of := fun_mk (st := s_is_row_of__is_value) l_is_row_of c_is_row_of k_is_row_of
  have b_is_row_of := F_is_row_of.binds (ps := ["thing", "good"]) fun _ _ _ _ _ _ us hl => match us, hl with | [_, _], _ => rfl
  have g_is_row_of := PySem.W.mg_of X G a_is_row_of
  have F_leaf_of := fun_mk (st := s_leaf_of) l_leaf_of c_leaf_of k_leaf_of
  have b_leaf_of := F_leaf_of.binds (ps := ["told"]) fun _ _ _ _ _ _ us hl => match us, hl with | [_], _ => rfl
  have g_leaf_of := PySem.W.mg_of X G a_leaf_of
  have F__law_cell_at := fun_mk (st := s__law_cell_at) l__law_cell_at c__law_cell_at k__law_cell_at
  have b__law_cell_at := F__law_cell_at.binds (ps := ["_law_script", "_law_k"]) fun _ _ _ _ _ _ us hl => match us, hl with | [_, _], _ => rfl
  have g__law_cell_at := PySem.W.mg_of X G a__law_cell_at
  have F__law_well := fun_mk (st := s__law_well) l__law_well c__law_well k__law_well
  have b__law_well := F__law_well.binds (ps := ["_law_script", "_law_k"]) fun _ _ _ _ _ _ us hl => match us, hl with | [_, _], _ => rfl
  have g__law_well := PySem.W.mg_of X G a__law_well
  have F__law_draw := fun_mk (st := s__law_draw) l__law_draw c__law_draw k__law_draw
  have b__law_draw := F__law_draw.binds (ps := ["_law_well_here", "_law_many"]) fun _ _ _ _ _ _ us hl => match us, hl with | [_, _], _ => rfl
  have g__law_draw := PySem.W.mg_of X G a__law_draw
  have F__law_whole := fun_mk (st := s__law_whole) l__law_whole c__law_whole k__law_whole
  have b__law_whole := F__law_whole.binds (ps := ["_law_thing"]) fun _ _ _ _ _ _ us hl => match us, hl with | [_], _ => rfl
  have g__law_whole := PySem.W.mg_of X G a__law_whole
  have F__law_back := fun_mk (st := s__law_back) l__law_back c__law_back k__law_back
  have b__law_back := F__law_back.binds (ps := ["_law_well_here", "_law_number"]) fun _ _ _ _ _ _ us hl => match us, hl with | [_, _], _ => rfl
  have g__law_back := PySem.W.mg_of X G a__law_back
  have F__law_rule := fun_mk (st := s__law_rule) l__law_rule c__law_rule k__law_rule
  have b__law_rule := F__law_rule.binds (ps := ["_law_well_here", "_law_number", "_law_wide"]) fun _ _ _ _ _ _ us hl => match us, hl with | [_, _, _], _ => rfl
  have g__law_rule := PySem.W.mg_of X G a__law_rule
  have F__law_leaf := fun_mk (st := s__law_leaf) l__law_leaf c__law_leaf k__law_leaf
  have b__law_leaf := F__law_leaf.binds (ps := ["_law_well_here", "_law_number", "_law_wide", "_law_slot"]) fun _ _ _ _ _ _ us hl => match us, hl with | [_, _, _, _], _ => rfl
  have g__law_leaf := PySem.W.mg_of X G a__law_leaf
  have F__law_slots := fun_mk (st := s__law_slots) l__law_slots c__law_slots k__law_slots
  have b__law_slots := F__law_slots.binds (ps := ["_law_well_here", "_law_many"]) fun _ _ _ _ _ _ us hl => match us, hl with | [_, _], _ => rfl
  have g__law_slots := PySem.W.mg_of X G a__law_slots
  have F__law_leaves := fun_mk (st := s__law_leaves) l__law_leaves c__law_leaves k__law_leaves
  have b__law_leaves := F__law_leaves.binds (ps := ["_law_well_here", "_law_many", "_law_wide"]) fun _ _ _ _ _ _ us hl => match us, hl with | [_, _, _], _ => rfl
  have g__law_leaves := PySem.W.mg_of X G a__law_leaves
  have F__law_needs := fun_mk (st := s__law_needs) l__law_needs c__law_needs k__law_needs
  have b__law_needs := F__law_needs.binds (ps := ["_law_leaves_here", "_law_number", "_law_cell"]) fun _ _ _ _ _ _ us hl => match us, hl with | [_, _, _], _ => rfl
  have g__law_needs := PySem.W.mg_of X G a__law_needs
  have F__law_came := fun_mk (st := s__law_came) l__law_came c__law_came k__law_came
  have b__law_came := F__law_came.binds (ps := ["_law_well_here", "_law_many"]) fun _ _ _ _ _ _ us hl => match us, hl with | [_, _], _ => rfl
  have g__law_came := PySem.W.mg_of X G a__law_came
  have F__law_all_came := fun_mk (st := s__law_all_came) l__law_all_came c__law_all_came k__law_all_came
  have b__law_all_came := F__law_all_came.binds (ps := ["_law_leaves_here", "_law_came_here", "_law_number", "_law_cell"]) fun _ _ _ _ _ _ us hl => match us, hl with | [_, _, _, _], _ => rfl
  have g__law_all_came := PySem.W.mg_of X G a__law_all_came
  have F__law_way := fun_mk (st := s__law_way) l__law_way c__law_way k__law_way
  have b__law_way := F__law_way.binds (ps := ["_law_handed", "_law_number", "_law_cell"]) fun _ _ _ _ _ _ us hl => match us, hl with | [_, _, _], _ => rfl
  have g__law_way := PySem.W.mg_of X G a__law_way
  have F__law_way_right := fun_mk (st := s__law_way_right) l__law_way_right c__law_way_right k__law_way_right
  have b__law_way_right := F__law_way_right.binds (ps := ["_law_leaves_here", "_law_came_here", "_law_way_here", "_law_number", "_law_cell"]) fun _ _ _ _ _ _ us hl => match us, hl with | [_, _, _, _, _], _ => rfl
  have g__law_way_right := PySem.W.mg_of X G a__law_way_right
  have F__law_asked := fun_mk (st := s__law_asked) l__law_asked c__law_asked k__law_asked
  have b__law_asked := F__law_asked.binds (ps := ["_law_leaves_here", "_law_handed", "_law_came_here", "_law_number", "_law_cell"]) fun _ _ _ _ _ _ us hl => match us, hl with | [_, _, _, _, _], _ => rfl
  have g__law_asked := PySem.W.mg_of X G a__law_asked
  have F__law_chain := fun_mk (st := s__law_chain) l__law_chain c__law_chain k__law_chain
  have b__law_chain := F__law_chain.binds (ps := ["_law_well_here"]) fun _ _ _ _ _ _ us hl => match us, hl with | [_], _ => rfl
  have g__law_chain := PySem.W.mg_of X G a__law_chain
  have F__law_chain_right := fun_mk (st := s__law_chain_right) l__law_chain_right c__law_chain_right k__law_chain_right
  have b__law_chain_right := F__law_chain_right.binds (ps := ["_law_well_here"]) fun _ _ _ _ _ _ us hl => match us, hl with | [_], _ => rfl
  have g__law_chain_right := PySem.W.mg_of X G a__law_chain_right
  have F_law := fun_mk (st := s_law) l_law c_law k_law
  have b_law := F_law.binds (ps := ["_law_script"]) fun _ _ _ _ _ _ us hl => match us, hl with | [_], _ => rfl
  have g_law := PySem.W.mg_of X G a_law
  have F_Plain__needs := fun_mk (st := s_Plain__needs) l_Plain__needs c_Plain__needs k_Plain__needs
  have b_Plain__needs := F_Plain__needs.binds (ps := ["self"]) fun _ _ _ _ _ _ us hl => match us, hl with | [_], _ => rfl
  have F_Plain__value := fun_mk (st := s_Plain__value) l_Plain__value c_Plain__value k_Plain__value
  have b_Plain__value := F_Plain__value.binds (ps := ["self", "found"]) fun _ _ _ _ _ _ us hl => match us, hl with | [_, _], _ => rfl
  have F_Plain____init__ := fun_mk (st := s_Plain____init__) l_Plain____init__ c_Plain____init__ k_Plain____init__
  have b_Plain____init__ := F_Plain____init__.binds (ps := ["self", "value"]) fun _ _ _ _ _ _ us hl => match us, hl with | [_, _], _ => rfl
  have F_Moved__needs := fun_mk (st := s_Moved__needs) l_Moved__needs c_Moved__needs k_Moved__needs
  have b_Moved__needs := F_Moved__needs.binds (ps := ["self"]) fun _ _ _ _ _ _ us hl => match us, hl with | [_], _ => rfl
  have F_Moved__value := fun_mk (st := s_Moved__value) l_Moved__value c_Moved__value k_Moved__value
  have b_Moved__value := F_Moved__value.binds (ps := ["self", "found"]) fun _ _ _ _ _ _ us hl => match us, hl with | [_, _], _ => rfl
  have F_Moved____init__ := fun_mk (st := s_Moved____init__) l_Moved____init__ c_Moved____init__ k_Moved____init__
  have b_Moved____init__ := F_Moved____init__.binds (ps := ["self", "back", "cell", "add"]) fun _ _ _ _ _ _ us hl => match us, hl with | [_, _, _, _], _ => rfl
  have F_Mixed__needs := fun_mk (st := s_Mixed__needs) l_Mixed__needs c_Mixed__needs k_Mixed__needs
  have b_Mixed__needs := F_Mixed__needs.binds (ps := ["self"]) fun _ _ _ _ _ _ us hl => match us, hl with | [_], _ => rfl
  have F_Mixed__value := fun_mk (st := s_Mixed__value) l_Mixed__value c_Mixed__value k_Mixed__value
  have b_Mixed__value := F_Mixed__value.binds (ps := ["self", "found"]) fun _ _ _ _ _ _ us hl => match us, hl with | [_, _], _ => rfl
  have F_Mixed____init__ := fun_mk (st := s_Mixed____init__) l_Mixed____init__ c_Mixed____init__ k_Mixed____init__
  have b_Mixed____init__ := F_Mixed____init__.binds (ps := ["self", "back", "cell", "other_back", "other_cell"]) fun _ _ _ _ _ _ us hl => match us, hl with | [_, _, _, _, _], _ => rfl
  have F_Full__rule := fun_mk (st := s_Full__rule) l_Full__rule c_Full__rule k_Full__rule
  have b_Full__rule := F_Full__rule.binds (ps := ["self", "cell"]) fun _ _ _ _ _ _ us hl => match us, hl with | [_, _], _ => rfl
  have F_Full____init__ := fun_mk (st := s_Full____init__) l_Full____init__ c_Full____init__ k_Full____init__
  have b_Full____init__ := F_Full____init__.binds (ps := ["self", "begin", "span", "values"]) fun _ _ _ _ _ _ us hl => match us, hl with | [_, _, _, _], _ => rfl
  have F_Still__rule := fun_mk (st := s_Still__rule) l_Still__rule c_Still__rule k_Still__rule
  have b_Still__rule := F_Still__rule.binds (ps := ["self", "cell"]) fun _ _ _ _ _ _ us hl => match us, hl with | [_, _], _ => rfl
  have F_Still____init__ := fun_mk (st := s_Still____init__) l_Still____init__ c_Still____init__ k_Still____init__
  have b_Still____init__ := F_Still____init__.binds (ps := ["self", "begin", "span", "back"]) fun _ _ _ _ _ _ us hl => match us, hl with | [_, _, _, _], _ => rfl
  have F_Woven__rule := fun_mk (st := s_Woven__rule) l_Woven__rule c_Woven__rule k_Woven__rule
  have b_Woven__rule := F_Woven__rule.binds (ps := ["self", "cell"]) fun _ _ _ _ _ _ us hl => match us, hl with | [_, _], _ => rfl
  have F_Woven____init__ := fun_mk (st := s_Woven____init__) l_Woven____init__ c_Woven____init__ k_Woven____init__
  have b_Woven____init__ := F_Woven____init__.binds (ps := ["self", "begin", "span", "rules"]) fun _ _ _ _ _ _ us hl => match us, hl with | [_, _, _, _], _ => rfl
  have F_NotKnown____init__ := fun_mk (st := s_NotKnown____init__) l_NotKnown____init__ c_NotKnown____init__ k_NotKnown____init__
  have b_NotKnown____init__ := F_NotKnown____init__.binds (ps := ["self", "way"]) fun _ _ _ _ _ _ us hl => match us, hl with | [_, _], _ => rfl
  have F_Leaf____init__ := fun_mk (st := s_Leaf____init__) l_Leaf____init__ c_Leaf____init__ k_Leaf____init__
  have b_Leaf____init__ := F_Leaf____init__.binds (ps := ["self", "begin", "span"]) fun _ _ _ _ _ _ us hl => match us, hl with | [_, _, _], _ => rfl
  have T_Moved : KI K mg "Moved" C_Moved := ⟨⟨kca_Moved, ⟨kcpg_Moved, kchd_Moved, kcpo_Moved, kcsa_Moved⟩, kcha_Moved, xhn, xht, kchm_Moved, bt_of kctbool_Moved kctint_Moved kctstr_Moved kctlist_Moved kcttuple_Moved kctdict_Moved⟩, PySem.W.mg_of X G kca_Moved, kcty_Moved, kcis_Moved, kcself_Moved⟩
  have T_Mixed : KI K mg "Mixed" C_Mixed := ⟨⟨kca_Mixed, ⟨kcpg_Mixed, kchd_Mixed, kcpo_Mixed, kcsa_Mixed⟩, kcha_Mixed, xhn, xht, kchm_Mixed, bt_of kctbool_Mixed kctint_Mixed kctstr_Mixed kctlist_Mixed kcttuple_Mixed kctdict_Mixed⟩, PySem.W.mg_of X G kca_Mixed, kcty_Mixed, kcis_Mixed, kcself_Mixed⟩
  have T_Full : KI K mg "Full" C_Full := ⟨⟨kca_Full, ⟨kcpg_Full, kchd_Full, kcpo_Full, kcsa_Full⟩, kcha_Full, xhn, xht, kchm_Full, bt_of kctbool_Full kctint_Full kctstr_Full kctlist_Full kcttuple_Full kctdict_Full⟩, PySem.W.mg_of X G kca_Full, kcty_Full, kcis_Full, kcself_Full⟩
  have T_Plain : KI K mg "Plain" C_Plain := ⟨⟨kca_Plain, ⟨kcpg_Plain, kchd_Plain, kcpo_Plain, kcsa_Plain⟩, kcha_Plain, xhn, xht, kchm_Plain, bt_of kctbool_Plain kctint_Plain kctstr_Plain kctlist_Plain kcttuple_Plain kctdict_Plain⟩, PySem.W.mg_of X G kca_Plain, kcty_Plain, kcis_Plain, kcself_Plain⟩
  have T_Still : KI K mg "Still" C_Still := ⟨⟨kca_Still, ⟨kcpg_Still, kchd_Still, kcpo_Still, kcsa_Still⟩, kcha_Still, xhn, xht, kchm_Still, bt_of kctbool_Still kctint_Still kctstr_Still kctlist_Still kcttuple_Still kctdict_Still⟩, PySem.W.mg_of X G kca_Still, kcty_Still, kcis_Still, kcself_Still⟩
  have T_Woven : KI K mg "Woven" C_Woven := ⟨⟨kca_Woven, ⟨kcpg_Woven, kchd_Woven, kcpo_Woven, kcsa_Woven⟩, kcha_Woven, xhn, xht, kchm_Woven, bt_of kctbool_Woven kctint_Woven kctstr_Woven kctlist_Woven kcttuple_Woven kctdict_Woven⟩, PySem.W.mg_of X G kca_Woven, kcty_Woven, kcis_Woven, kcself_Woven⟩
  have T_Leaf : KI K mg "Leaf" C_Leaf := ⟨⟨kca_Leaf, ⟨kcpg_Leaf, kchd_Leaf, kcpo_Leaf, kcsa_Leaf⟩, kcha_Leaf, xhn, xht, kchm_Leaf, bt_of kctbool_Leaf kctint_Leaf kctstr_Leaf kctlist_Leaf kcttuple_Leaf kctdict_Leaf⟩, PySem.W.mg_of X G kca_Leaf, kcty_Leaf, kcis_Leaf, kcself_Leaf⟩
  have M_Plain : L2.Mk K C_Plain f_Plain____init__ := ⟨kcmk_Plain, a_Plain____init__, fn_Plain____init__, kckp_Plain⟩
  have lo_Plain : LaysOk K C_Plain ["worth"] := ⟨n_Plain_worth, trivial⟩
  have bi_Plain := b_Plain____init__
  have M_Moved : L2.Mk K C_Moved f_Moved____init__ := ⟨kcmk_Moved, a_Moved____init__, fn_Moved____init__, kckp_Moved⟩
  have lo_Moved : LaysOk K C_Moved ["back", "cell", "add"] := ⟨n_Moved_back, ⟨n_Moved_cell, ⟨n_Moved_add, trivial⟩⟩⟩
  have bi_Moved := b_Moved____init__
  have M_Mixed : L2.Mk K C_Mixed f_Mixed____init__ := ⟨kcmk_Mixed, a_Mixed____init__, fn_Mixed____init__, kckp_Mixed⟩
  have lo_Mixed : LaysOk K C_Mixed ["back", "cell", "other_back", "other_cell"] := ⟨n_Mixed_back, ⟨n_Mixed_cell, ⟨n_Mixed_other_back, ⟨n_Mixed_other_cell, trivial⟩⟩⟩⟩
  have bi_Mixed := b_Mixed____init__
  have M_Full : L2.Mk K C_Full f_Full____init__ := ⟨kcmk_Full, a_Full____init__, fn_Full____init__, kckp_Full⟩
  have lo_Full : LaysOk K C_Full ["begin", "span", "worths"] := ⟨n_Full_begin, ⟨n_Full_span, ⟨n_Full_worths, trivial⟩⟩⟩
  have bi_Full := b_Full____init__
  have M_Still : L2.Mk K C_Still f_Still____init__ := ⟨kcmk_Still, a_Still____init__, fn_Still____init__, kckp_Still⟩
  have lo_Still : LaysOk K C_Still ["begin", "span", "back"] := ⟨n_Still_begin, ⟨n_Still_span, ⟨n_Still_back, trivial⟩⟩⟩
  have bi_Still := b_Still____init__
  have M_Woven : L2.Mk K C_Woven f_Woven____init__ := ⟨kcmk_Woven, a_Woven____init__, fn_Woven____init__, kckp_Woven⟩
  have lo_Woven : LaysOk K C_Woven ["begin", "span", "rules"] := ⟨n_Woven_begin, ⟨n_Woven_span, ⟨n_Woven_rules, trivial⟩⟩⟩
  have bi_Woven := b_Woven____init__
  have F_is_row_of__is_value := F_is_row_of
  have b_is_row_of__is_value := b_is_row_of
  have g_is_row_of__is_value := g_is_row_of
  have k_is_row_of__is_value := k_is_row_of
  have F_is_row_of__is_rule := F_is_row_of
  have b_is_row_of__is_rule := b_is_row_of
  have g_is_row_of__is_rule := g_is_row_of
  have k_is_row_of__is_rule := k_is_row_of
  have T_NoCell : ExcR K mg "NoCell" C_NoCell := ⟨⟨PySem.W.mg_of X G xca_NoCell, ⟨xchg_NoCell, xchk_NoCell, xchs_NoCell, xchd_NoCell, xcha_NoCell, xhn, xht, xchm_NoCell⟩, xcty_NoCell, xckp_NoCell, xcve_NoCell, xcis_NoCell, xcself_NoCell⟩, xcex_NoCell⟩
  have T_NoRule : ExcR K mg "NoRule" C_NoRule := ⟨⟨PySem.W.mg_of X G xca_NoRule, ⟨xchg_NoRule, xchk_NoRule, xchs_NoRule, xchd_NoRule, xcha_NoRule, xhn, xht, xchm_NoRule⟩, xcty_NoRule, xckp_NoRule, xcve_NoRule, xcis_NoRule, xcself_NoRule⟩, xcex_NoRule⟩
  have T_NotKnown : ExcT K mg "NotKnown" C_NotKnown := ⟨PySem.W.mg_of X G xca_NotKnown, ⟨xchg_NotKnown, xchk_NotKnown, xchs_NotKnown, xchd_NotKnown, xcha_NotKnown, xhn, xht, xchm_NotKnown⟩, xcty_NotKnown, xckp_NotKnown, xcve_NotKnown, xcis_NotKnown, xcself_NotKnown⟩
  have T_NoLeaf : ExcR K mg "NoLeaf" C_NoLeaf := ⟨⟨PySem.W.mg_of X G xca_NoLeaf, ⟨xchg_NoLeaf, xchk_NoLeaf, xchs_NoLeaf, xchd_NoLeaf, xcha_NoLeaf, xhn, xht, xchm_NoLeaf⟩, xcty_NoLeaf, xckp_NoLeaf, xcve_NoLeaf, xcis_NoLeaf, xcself_NoLeaf⟩, xcex_NoLeaf⟩
  have T_NoNumber : ExcR K mg "NoNumber" C_NoNumber := ⟨⟨PySem.W.mg_of X G xca_NoNumber, ⟨xchg_NoNumber, xchk_NoNumber, xchs_NoNumber, xchd_NoNumber, xcha_NoNumber, xhn, xht, xchm_NoNumber⟩, xcty_NoNumber, xckp_NoNumber, xcve_NoNumber, xcis_NoNumber, xcself_NoNumber⟩, xcex_NoNumber⟩
  have T_NotWhole : ExcR K mg "NotWhole" C_NotWhole := ⟨⟨PySem.W.mg_of X G xca_NotWhole, ⟨xchg_NotWhole, xchk_NotWhole, xchs_NotWhole, xchd_NotWhole, xcha_NotWhole, xhn, xht, xchm_NotWhole⟩, xcty_NotWhole, xckp_NotWhole, xcve_NotWhole, xcis_NotWhole, xcself_NotWhole⟩, xcex_NotWhole⟩
  have T_NoHead : ExcR K mg "NoHead" C_NoHead := ⟨⟨PySem.W.mg_of X G xca_NoHead, ⟨xchg_NoHead, xchk_NoHead, xchs_NoHead, xchd_NoHead, xcha_NoHead, xhn, xht, xchm_NoHead⟩, xcty_NoHead, xckp_NoHead, xcve_NoHead, xcis_NoHead, xcself_NoHead⟩, xcex_NoHead⟩
  have T_ScrollError : ExcR K mg "ScrollError" C_ScrollError := ⟨⟨PySem.W.mg_of X G xca_ScrollError, ⟨xchg_ScrollError, xchk_ScrollError, xchs_ScrollError, xchd_ScrollError, xcha_ScrollError, xhn, xht, xchm_ScrollError⟩, xcty_ScrollError, xckp_ScrollError, xcve_ScrollError, xcis_ScrollError, xcself_ScrollError⟩, xcex_ScrollError⟩
  have XF_NotKnown : ExcF1 K C_NotKnown f_NotKnown____init__ "way" := ⟨oex_of xo_NotKnown xsa_NotKnown xchs_NotKnown xcty_NotKnown xckp_NotKnown, a_NotKnown____init__, xti_NotKnown, xn1_NotKnown⟩
  have xn_NotKnown_way := xn1_NotKnown
  have xg_ScrollError := PySem.W.mg_of X G yga_NotKnown
  have xr_ScrollError : ClX.CRead K C_ScrollError (.type "type") := ⟨yrd_NotKnown, ygg_NotKnown⟩
  have xv_ScrollError := find_bu yfc_NotKnown
  have bI_list := PySem.W.mg_none_of X G z_list
  have bI_sorted := PySem.W.mg_none_of X G z_sorted
  have bI_all := PySem.W.mg_none_of X G z_all
  have bI_any := PySem.W.mg_none_of X G z_any
  have bI_isinstance := PySem.W.mg_none_of X G z_isinstance
  have bI_int := PySem.W.mg_none_of X G z_int
  have bI_bool := PySem.W.mg_none_of X G z_bool
  have bI_tuple := PySem.W.mg_none_of X G z_tuple
  have bI_len := PySem.W.mg_none_of X G z_len
  have bI_min := PySem.W.mg_none_of X G z_min
  have bI_range := PySem.W.mg_none_of X G z_range
  have bI_dict := PySem.W.mg_none_of X G z_dict
  have bI_sum := PySem.W.mg_none_of X G z_sum
  have kb_Moved____init___2_add : KBinds K (PySem.W.fnOf "__init__" "Moved.__init__" (defArgs s_Moved____init__) (defBody s_Moved____init__) (defScope s_Moved____init__) .none kV_Moved____init__ dc_Moved____init__ pm_Moved____init__ an_Moved____init__ cd_Moved____init__ ct_Moved____init__) ["self", "back", "cell", "add"] ["add"] (fun us ws => match us, ws with | [u0, u1, u2], [w0] => [u0, u1, u2, w0] | _, _ => []) (fun us ws => match us, ws with | [u0, u1, u2], [w0] => [u0, u1, u2, w0] | _, _ => []) := by
    refine F_Moved____init__.kb (fun _ _ _ _ _ _ us ws hl => ?_) (fun {vs us zs ws} r1 r2 => ?_)
    · skip
      cases us with
      | nil => exact absurd (show (0 : Nat) = 4 from hl) (by decide)
      | cons q00 us =>
        cases us with
        | nil => exact absurd (show (0 : Nat) = 4 from hl) (by decide)
        | cons q01 us =>
          cases us with
          | nil => exact absurd (show (0 : Nat) = 4 from hl) (by decide)
          | cons q02 us =>
            cases us with
            | nil =>
              cases ws with
              | nil => exact absurd (show (0 : Nat) = 4 from hl) (by decide)
              | cons q10 ws =>
                cases ws with
                | nil =>
                  rfl
                | cons _ _ => exact absurd (show (0 : Nat) = 4 from hl) (by decide)
            | cons _ _ => exact absurd (show (0 : Nat) = 4 from hl) (by decide)
    · skip
      cases r1 with
      | nil => exact .nil
      | cons q00 r1 =>
        cases r1 with
        | nil => exact .nil
        | cons q01 r1 =>
          cases r1 with
          | nil => exact .nil
          | cons q02 r1 =>
            cases r1 with
            | nil =>
              cases r2 with
              | nil => exact .nil
              | cons q10 r2 =>
                cases r2 with
                | nil =>
                  exact (.cons q00 (.cons q01 (.cons q02 (.cons q10 .nil))))
                | cons _ _ => exact .nil
            | cons _ _ => exact .nil
  have kb_is_need_0_back_cell : KBinds K (PySem.W.fnOf "is_need" "is_need" (defArgs s_is_need) (defBody s_is_need) (defScope s_is_need) .none kV_is_need dc_is_need pm_is_need an_is_need cd_is_need ct_is_need) ["back", "cell"] ["back", "cell"] (fun us ws => match us, ws with | [], [w0, w1] => [w0, w1] | _, _ => []) (fun us ws => match us, ws with | [], [w0, w1] => [w0, w1] | _, _ => []) := by
    refine F_is_need.kb (fun _ _ _ _ _ _ us ws hl => ?_) (fun {vs us zs ws} r1 r2 => ?_)
    · skip
      cases us with
      | nil =>
        cases ws with
        | nil => exact absurd (show (0 : Nat) = 2 from hl) (by decide)
        | cons q10 ws =>
          cases ws with
          | nil => exact absurd (show (0 : Nat) = 2 from hl) (by decide)
          | cons q11 ws =>
            cases ws with
            | nil =>
              rfl
            | cons _ _ => exact absurd (show (0 : Nat) = 2 from hl) (by decide)
      | cons _ _ => exact absurd (show (0 : Nat) = 2 from hl) (by decide)
    · skip
      cases r1 with
      | nil =>
        cases r2 with
        | nil => exact .nil
        | cons q10 r2 =>
          cases r2 with
          | nil => exact .nil
          | cons q11 r2 =>
            cases r2 with
            | nil =>
              exact (.cons q10 (.cons q11 .nil))
            | cons _ _ => exact .nil
      | cons _ _ => exact .nil
  have kb_Mixed____init___2_other_back_other_cell : KBinds K (PySem.W.fnOf "__init__" "Mixed.__init__" (defArgs s_Mixed____init__) (defBody s_Mixed____init__) (defScope s_Mixed____init__) .none kV_Mixed____init__ dc_Mixed____init__ pm_Mixed____init__ an_Mixed____init__ cd_Mixed____init__ ct_Mixed____init__) ["self", "back", "cell", "other_back", "other_cell"] ["other_back", "other_cell"] (fun us ws => match us, ws with | [u0, u1, u2], [w0, w1] => [u0, u1, u2, w0, w1] | _, _ => []) (fun us ws => match us, ws with | [u0, u1, u2], [w0, w1] => [u0, u1, u2, w0, w1] | _, _ => []) := by
    refine F_Mixed____init__.kb (fun _ _ _ _ _ _ us ws hl => ?_) (fun {vs us zs ws} r1 r2 => ?_)
    · skip
      cases us with
      | nil => exact absurd (show (0 : Nat) = 5 from hl) (by decide)
      | cons q00 us =>
        cases us with
        | nil => exact absurd (show (0 : Nat) = 5 from hl) (by decide)
        | cons q01 us =>
          cases us with
          | nil => exact absurd (show (0 : Nat) = 5 from hl) (by decide)
          | cons q02 us =>
            cases us with
            | nil =>
              cases ws with
              | nil => exact absurd (show (0 : Nat) = 5 from hl) (by decide)
              | cons q10 ws =>
                cases ws with
                | nil => exact absurd (show (0 : Nat) = 5 from hl) (by decide)
                | cons q11 ws =>
                  cases ws with
                  | nil =>
                    rfl
                  | cons _ _ => exact absurd (show (0 : Nat) = 5 from hl) (by decide)
            | cons _ _ => exact absurd (show (0 : Nat) = 5 from hl) (by decide)
    · skip
      cases r1 with
      | nil => exact .nil
      | cons q00 r1 =>
        cases r1 with
        | nil => exact .nil
        | cons q01 r1 =>
          cases r1 with
          | nil => exact .nil
          | cons q02 r1 =>
            cases r1 with
            | nil =>
              cases r2 with
              | nil => exact .nil
              | cons q10 r2 =>
                cases r2 with
                | nil => exact .nil
                | cons q11 r2 =>
                  cases r2 with
                  | nil =>
                    exact (.cons q00 (.cons q01 (.cons q02 (.cons q10 (.cons q11 .nil)))))
                  | cons _ _ => exact .nil
            | cons _ _ => exact .nil
  have kb_Full____init___2_values : KBinds K (PySem.W.fnOf "__init__" "Full.__init__" (defArgs s_Full____init__) (defBody s_Full____init__) (defScope s_Full____init__) .none kV_Full____init__ dc_Full____init__ pm_Full____init__ an_Full____init__ cd_Full____init__ ct_Full____init__) ["self", "begin", "span", "values"] ["values"] (fun us ws => match us, ws with | [u0, u1, u2], [w0] => [u0, u1, u2, w0] | _, _ => []) (fun us ws => match us, ws with | [u0, u1, u2], [w0] => [u0, u1, u2, w0] | _, _ => []) := by
    refine F_Full____init__.kb (fun _ _ _ _ _ _ us ws hl => ?_) (fun {vs us zs ws} r1 r2 => ?_)
    · skip
      cases us with
      | nil => exact absurd (show (0 : Nat) = 4 from hl) (by decide)
      | cons q00 us =>
        cases us with
        | nil => exact absurd (show (0 : Nat) = 4 from hl) (by decide)
        | cons q01 us =>
          cases us with
          | nil => exact absurd (show (0 : Nat) = 4 from hl) (by decide)
          | cons q02 us =>
            cases us with
            | nil =>
              cases ws with
              | nil => exact absurd (show (0 : Nat) = 4 from hl) (by decide)
              | cons q10 ws =>
                cases ws with
                | nil =>
                  rfl
                | cons _ _ => exact absurd (show (0 : Nat) = 4 from hl) (by decide)
            | cons _ _ => exact absurd (show (0 : Nat) = 4 from hl) (by decide)
    · skip
      cases r1 with
      | nil => exact .nil
      | cons q00 r1 =>
        cases r1 with
        | nil => exact .nil
        | cons q01 r1 =>
          cases r1 with
          | nil => exact .nil
          | cons q02 r1 =>
            cases r1 with
            | nil =>
              cases r2 with
              | nil => exact .nil
              | cons q10 r2 =>
                cases r2 with
                | nil =>
                  exact (.cons q00 (.cons q01 (.cons q02 (.cons q10 .nil))))
                | cons _ _ => exact .nil
            | cons _ _ => exact .nil
  have kb_Still____init___2_back : KBinds K (PySem.W.fnOf "__init__" "Still.__init__" (defArgs s_Still____init__) (defBody s_Still____init__) (defScope s_Still____init__) .none kV_Still____init__ dc_Still____init__ pm_Still____init__ an_Still____init__ cd_Still____init__ ct_Still____init__) ["self", "begin", "span", "back"] ["back"] (fun us ws => match us, ws with | [u0, u1, u2], [w0] => [u0, u1, u2, w0] | _, _ => []) (fun us ws => match us, ws with | [u0, u1, u2], [w0] => [u0, u1, u2, w0] | _, _ => []) := by
    refine F_Still____init__.kb (fun _ _ _ _ _ _ us ws hl => ?_) (fun {vs us zs ws} r1 r2 => ?_)
    · skip
      cases us with
      | nil => exact absurd (show (0 : Nat) = 4 from hl) (by decide)
      | cons q00 us =>
        cases us with
        | nil => exact absurd (show (0 : Nat) = 4 from hl) (by decide)
        | cons q01 us =>
          cases us with
          | nil => exact absurd (show (0 : Nat) = 4 from hl) (by decide)
          | cons q02 us =>
            cases us with
            | nil =>
              cases ws with
              | nil => exact absurd (show (0 : Nat) = 4 from hl) (by decide)
              | cons q10 ws =>
                cases ws with
                | nil =>
                  rfl
                | cons _ _ => exact absurd (show (0 : Nat) = 4 from hl) (by decide)
            | cons _ _ => exact absurd (show (0 : Nat) = 4 from hl) (by decide)
    · skip
      cases r1 with
      | nil => exact .nil
      | cons q00 r1 =>
        cases r1 with
        | nil => exact .nil
        | cons q01 r1 =>
          cases r1 with
          | nil => exact .nil
          | cons q02 r1 =>
            cases r1 with
            | nil =>
              cases r2 with
              | nil => exact .nil
              | cons q10 r2 =>
                cases r2 with
                | nil =>
                  exact (.cons q00 (.cons q01 (.cons q02 (.cons q10 .nil))))
                | cons _ _ => exact .nil
            | cons _ _ => exact .nil
  have kb_Woven____init___2_rules : KBinds K (PySem.W.fnOf "__init__" "Woven.__init__" (defArgs s_Woven____init__) (defBody s_Woven____init__) (defScope s_Woven____init__) .none kV_Woven____init__ dc_Woven____init__ pm_Woven____init__ an_Woven____init__ cd_Woven____init__ ct_Woven____init__) ["self", "begin", "span", "rules"] ["rules"] (fun us ws => match us, ws with | [u0, u1, u2], [w0] => [u0, u1, u2, w0] | _, _ => []) (fun us ws => match us, ws with | [u0, u1, u2], [w0] => [u0, u1, u2, w0] | _, _ => []) := by
    refine F_Woven____init__.kb (fun _ _ _ _ _ _ us ws hl => ?_) (fun {vs us zs ws} r1 r2 => ?_)
    · skip
      cases us with
      | nil => exact absurd (show (0 : Nat) = 4 from hl) (by decide)
      | cons q00 us =>
        cases us with
        | nil => exact absurd (show (0 : Nat) = 4 from hl) (by decide)
        | cons q01 us =>
          cases us with
          | nil => exact absurd (show (0 : Nat) = 4 from hl) (by decide)
          | cons q02 us =>
            cases us with
            | nil =>
              cases ws with
              | nil => exact absurd (show (0 : Nat) = 4 from hl) (by decide)
              | cons q10 ws =>
                cases ws with
                | nil =>
                  rfl
                | cons _ _ => exact absurd (show (0 : Nat) = 4 from hl) (by decide)
            | cons _ _ => exact absurd (show (0 : Nat) = 4 from hl) (by decide)
    · skip
      cases r1 with
      | nil => exact .nil
      | cons q00 r1 =>
        cases r1 with
        | nil => exact .nil
        | cons q01 r1 =>
          cases r1 with
          | nil => exact .nil
          | cons q02 r1 =>
            cases r1 with
            | nil =>
              cases r2 with
              | nil => exact .nil
              | cons q10 r2 =>
                cases r2 with
                | nil =>
                  exact (.cons q00 (.cons q01 (.cons q02 (.cons q10 .nil))))
                | cons _ _ => exact .nil
            | cons _ _ => exact .nil
  refine ⟨_, fun s v => (.of_eq rfl : BindsTo s (PySem.W.fnOf "law" "law" (defArgs s_law) (defBody s_law) (defScope s_law) .none kV_law dc_law pm_law an_law cd_law ct_law) ⟨[v], []⟩ [("_law_script", v)]), fun base _ _ => ?_⟩
  have G_Plain____init__ := ok_Plain____init__ (Pr := l.prog) (wo := w) (base := base) (mg := mg) F_Plain____init__
  have Gi_Plain := G_Plain____init__
  have G_Moved____init__ := ok_Moved____init__ (Pr := l.prog) (wo := w) (base := base) (mg := mg) F_Moved____init__
  have Gi_Moved := G_Moved____init__
  have G_Mixed____init__ := ok_Mixed____init__ (Pr := l.prog) (wo := w) (base := base) (mg := mg) F_Mixed____init__
  have Gi_Mixed := G_Mixed____init__
  have G_NotKnown____init__ := ok_NotKnown____init__ (Pr := l.prog) (wo := w) (base := base) (mg := mg) F_NotKnown____init__ xg_ScrollError xr_ScrollError xv_ScrollError
  have G_Leaf____init__ := ok_Leaf____init__ (Pr := l.prog) (wo := w) (base := base) (mg := mg) F_Leaf____init__
  have r_Leaf : ClX.CRead K C_Leaf (.type "type") := ⟨rd_Leaf, ga_Leaf⟩
  have cv_Leaf : ClX.CVal K C_Leaf (.type "type") "__init__" (.ref f_Leaf____init__) (.ref f_Leaf____init__) := ⟨fc_Leaf, rfl⟩
  have ki_Leaf := k_Leaf____init__
  have bi_Leaf := b_Leaf____init__
  have Gi_Leaf := G_Leaf____init__
  have G_Full____init__ := ok_Full____init__ (Pr := l.prog) (wo := w) (base := base) (mg := mg) F_Full____init__ T_Leaf r_Leaf cv_Leaf ki_Leaf bi_Leaf Gi_Leaf
  have Gi_Full := G_Full____init__
  have G_Still____init__ := ok_Still____init__ (Pr := l.prog) (wo := w) (base := base) (mg := mg) F_Still____init__ T_Leaf r_Leaf cv_Leaf ki_Leaf bi_Leaf Gi_Leaf
  have Gi_Still := G_Still____init__
  have G_Woven____init__ := ok_Woven____init__ (Pr := l.prog) (wo := w) (base := base) (mg := mg) F_Woven____init__ T_Leaf r_Leaf cv_Leaf ki_Leaf bi_Leaf Gi_Leaf
  have Gi_Woven := G_Woven____init__
  have G_all_came := ok_all_came (Pr := l.prog) (wo := w) (base := base) (mg := mg) F_all_came bI_all
  have G_is_whole := ok_is_whole (Pr := l.prog) (wo := w) (base := base) (mg := mg) F_is_whole bI_isinstance bI_int bI_bool
  have G__law_cell_at := ok__law_cell_at (Pr := l.prog) (wo := w) (base := base) (mg := mg) F__law_cell_at bI_len
  have G__law_draw := ok__law_draw (Pr := l.prog) (wo := w) (base := base) (mg := mg) F__law_draw
  have G__law_whole := ok__law_whole (Pr := l.prog) (wo := w) (base := base) (mg := mg) F__law_whole bI_isinstance bI_int bI_bool
  have G__law_needs := ok__law_needs (Pr := l.prog) (wo := w) (base := base) (mg := mg) F__law_needs
  have G_Plain__needs := ok_Plain__needs (Pr := l.prog) (wo := w) (base := base) (mg := mg) F_Plain__needs
  have G_Plain__value := ok_Plain__value (Pr := l.prog) (wo := w) (base := base) (mg := mg) F_Plain__value T_Plain n_Plain_worth
  have G_Moved__needs := ok_Moved__needs (Pr := l.prog) (wo := w) (base := base) (mg := mg) F_Moved__needs T_Moved n_Moved_back n_Moved_cell
  have G_Moved__value := ok_Moved__value (Pr := l.prog) (wo := w) (base := base) (mg := mg) F_Moved__value T_Moved n_Moved_add
  have G_Mixed__needs := ok_Mixed__needs (Pr := l.prog) (wo := w) (base := base) (mg := mg) F_Mixed__needs T_Mixed n_Mixed_back n_Mixed_cell n_Mixed_other_back n_Mixed_other_cell
  have G_Mixed__value := ok_Mixed__value (Pr := l.prog) (wo := w) (base := base) (mg := mg) F_Mixed__value bI_sum
  have G_is_need := ok_is_need (Pr := l.prog) (wo := w) (base := base) (mg := mg) F_is_need ⟨_, _, g_is_whole, k_is_whole, b_is_whole, G_is_whole⟩
  have G_is_value := ok_is_value (Pr := l.prog) (wo := w) (base := base) (mg := mg) F_is_value ⟨_, _, g_is_whole, k_is_whole, b_is_whole, G_is_whole⟩
  have G__law_well := ok__law_well (Pr := l.prog) (wo := w) (base := base) (mg := mg) F__law_well ⟨_, _, g__law_cell_at, k__law_cell_at, b__law_cell_at, G__law_cell_at⟩
  have G__law_back := ok__law_back (Pr := l.prog) (wo := w) (base := base) (mg := mg) F__law_back ⟨_, _, g__law_draw, k__law_draw, b__law_draw, G__law_draw⟩ bI_min
  have G__law_slots := ok__law_slots (Pr := l.prog) (wo := w) (base := base) (mg := mg) F__law_slots ⟨_, _, g__law_draw, k__law_draw, b__law_draw, G__law_draw⟩ bI_range
  have G__law_came := ok__law_came (Pr := l.prog) (wo := w) (base := base) (mg := mg) F__law_came ⟨_, _, g__law_draw, k__law_draw, b__law_draw, G__law_draw⟩ bI_range
  have G__law_all_came := ok__law_all_came (Pr := l.prog) (wo := w) (base := base) (mg := mg) F__law_all_came ⟨_, _, g__law_needs, k__law_needs, b__law_needs, G__law_needs⟩
  have G__law_way_right := ok__law_way_right (Pr := l.prog) (wo := w) (base := base) (mg := mg) F__law_way_right ⟨_, _, g__law_needs, k__law_needs, b__law_needs, G__law_needs⟩ ⟨_, _, g__law_whole, k__law_whole, b__law_whole, G__law_whole⟩ bI_range bI_len bI_isinstance bI_list bI_tuple bI_all
  have G__law_chain := ok__law_chain (Pr := l.prog) (wo := w) (base := base) (mg := mg) F__law_chain ⟨_, _, g__law_draw, k__law_draw, b__law_draw, G__law_draw⟩ bI_range
  have G_rule_of := ok_rule_of (Pr := l.prog) (wo := w) (base := base) (mg := mg) F_rule_of T_NoRule T_Plain T_Moved T_Mixed M_Plain lo_Plain bi_Plain Gi_Plain M_Moved lo_Moved bi_Moved Gi_Moved M_Mixed lo_Mixed bi_Mixed Gi_Mixed ⟨_, _, g_is_whole, k_is_whole, b_is_whole, G_is_whole⟩ g_is_need k_is_need b_is_need G_is_need kb_is_need_0_back_cell bI_isinstance bI_tuple bI_len kb_Moved____init___2_add kb_Mixed____init___2_other_back_other_cell
  have G_is_row_of__is_value := ok_is_row_of__is_value (Pr := l.prog) (wo := w) (base := base) (mg := mg) F_is_row_of__is_value g_is_value k_is_value b_is_value G_is_value bI_all bI_isinstance bI_tuple bI_len
  have G__law_rule := ok__law_rule (Pr := l.prog) (wo := w) (base := base) (mg := mg) F__law_rule ⟨_, _, g__law_draw, k__law_draw, b__law_draw, G__law_draw⟩ ⟨_, _, g__law_back, k__law_back, b__law_back, G__law_back⟩
  have G_Full__rule := ok_Full__rule (Pr := l.prog) (wo := w) (base := base) (mg := mg) F_Full__rule T_NoCell T_Full T_Plain n_Full_worths M_Plain lo_Plain bi_Plain Gi_Plain ⟨_, _, g_is_whole, k_is_whole, b_is_whole, G_is_whole⟩ bI_len
  have G_Still__rule := ok_Still__rule (Pr := l.prog) (wo := w) (base := base) (mg := mg) F_Still__rule T_NoCell T_Moved T_Still n_Still_back M_Moved lo_Moved bi_Moved Gi_Moved ⟨_, _, g_is_whole, k_is_whole, b_is_whole, G_is_whole⟩ kb_Moved____init___2_add
  have G_is_rule := ok_is_rule (Pr := l.prog) (wo := w) (base := base) (mg := mg) F_is_rule T_NoRule p_NoRule_NoRule ⟨_, _, g_rule_of, k_rule_of, b_rule_of, G_rule_of⟩
  have G__law_leaf := ok__law_leaf (Pr := l.prog) (wo := w) (base := base) (mg := mg) F__law_leaf ⟨_, _, g__law_draw, k__law_draw, b__law_draw, G__law_draw⟩ ⟨_, _, g__law_back, k__law_back, b__law_back, G__law_back⟩ ⟨_, _, g__law_rule, k__law_rule, b__law_rule, G__law_rule⟩ bI_tuple bI_range
  have G_Woven__rule := ok_Woven__rule (Pr := l.prog) (wo := w) (base := base) (mg := mg) F_Woven__rule T_NoCell T_Woven n_Woven_rules ⟨_, _, g_rule_of, k_rule_of, b_rule_of, G_rule_of⟩ ⟨_, _, g_is_whole, k_is_whole, b_is_whole, G_is_whole⟩ bI_len
  have L_Leaf__rule : ∀ C sp, A_Leaf__rule K mg C_Full C_Still C_Woven C sp → MAlt l.prog w K mg base (L2.CX l.prog w) 4 "rule" C sp := by
    rintro C sp (⟨rfl, rfl⟩ | ⟨rfl, rfl⟩ | ⟨rfl, rfl⟩)
    · exact ⟨_, _, _, T_Full.c, ⟨a_Full__rule, fn_Full__rule, k_Full__rule⟩, G_Full__rule.mono (by decide), b_Full__rule⟩
    · exact ⟨_, _, _, T_Still.c, ⟨a_Still__rule, fn_Still__rule, k_Still__rule⟩, G_Still__rule.mono (by decide), b_Still__rule⟩
    · exact ⟨_, _, _, T_Woven.c, ⟨a_Woven__rule, fn_Woven__rule, k_Woven__rule⟩, G_Woven__rule.mono (by decide), b_Woven__rule⟩
  have L_Rule__needs : ∀ C sp, A_Rule__needs K mg C_Plain C_Moved C_Mixed C sp → MAlt l.prog w K mg base CX0 1 "needs" C sp := by
    rintro C sp (⟨rfl, rfl⟩ | ⟨rfl, rfl⟩ | ⟨rfl, rfl⟩)
    · exact ⟨_, _, _, T_Plain.c, ⟨a_Plain__needs, fn_Plain__needs, k_Plain__needs⟩, G_Plain__needs.mono (by decide), b_Plain__needs⟩
    · exact ⟨_, _, _, T_Moved.c, ⟨a_Moved__needs, fn_Moved__needs, k_Moved__needs⟩, G_Moved__needs.mono (by decide), b_Moved__needs⟩
    · exact ⟨_, _, _, T_Mixed.c, ⟨a_Mixed__needs, fn_Mixed__needs, k_Mixed__needs⟩, G_Mixed__needs.mono (by decide), b_Mixed__needs⟩
  have G_needs_of := ok_needs_of (Pr := l.prog) (wo := w) (base := base) (mg := mg) F_needs_of T_Full T_Still T_Woven T_Plain T_Moved T_Mixed L_Leaf__rule L_Rule__needs
  have G_is_row_of__is_rule := ok_is_row_of__is_rule (Pr := l.prog) (wo := w) (base := base) (mg := mg) F_is_row_of__is_rule g_is_rule k_is_rule b_is_rule G_is_rule bI_all bI_isinstance bI_tuple bI_len
  have G__law_leaves := ok__law_leaves (Pr := l.prog) (wo := w) (base := base) (mg := mg) F__law_leaves ⟨_, _, g__law_slots, k__law_slots, b__law_slots, G__law_slots⟩ ⟨_, _, g__law_draw, k__law_draw, b__law_draw, G__law_draw⟩ ⟨_, _, g__law_leaf, k__law_leaf, b__law_leaf, G__law_leaf⟩ bI_range bI_len
  have G_hung := ok_hung (Pr := l.prog) (wo := w) (base := base) (mg := mg) F_hung ⟨_, _, g_needs_of, k_needs_of, b_needs_of, G_needs_of⟩ bI_list
  have L_Rule__value : ∀ C sp, A_Rule__value K mg C_Plain C_Moved C_Mixed C sp → MAlt l.prog w K mg base CX0 1 "value" C sp := by
    rintro C sp (⟨rfl, rfl⟩ | ⟨rfl, rfl⟩ | ⟨rfl, rfl⟩)
    · exact ⟨_, _, _, T_Plain.c, ⟨a_Plain__value, fn_Plain__value, k_Plain__value⟩, G_Plain__value.mono (by decide), b_Plain__value⟩
    · exact ⟨_, _, _, T_Moved.c, ⟨a_Moved__value, fn_Moved__value, k_Moved__value⟩, G_Moved__value.mono (by decide), b_Moved__value⟩
    · exact ⟨_, _, _, T_Mixed.c, ⟨a_Mixed__value, fn_Mixed__value, k_Mixed__value⟩, G_Mixed__value.mono (by decide), b_Mixed__value⟩
  have G_values_of := ok_values_of (Pr := l.prog) (wo := w) (base := base) (mg := mg) F_values_of T_Full T_Still T_Woven T_Plain T_Moved T_Mixed L_Leaf__rule L_Rule__value ⟨_, _, g_needs_of, k_needs_of, b_needs_of, G_needs_of⟩ bI_sorted bI_list
  have G_way_out := ok_way_out (Pr := l.prog) (wo := w) (base := base) (mg := mg) F_way_out ⟨_, _, g_needs_of, k_needs_of, b_needs_of, G_needs_of⟩ bI_sorted bI_list bI_any
  have G_leaf_of := ok_leaf_of (Pr := l.prog) (wo := w) (base := base) (mg := mg) F_leaf_of T_NoLeaf T_Full T_Still T_Woven M_Full lo_Full bi_Full Gi_Full M_Still lo_Still bi_Still Gi_Still M_Woven lo_Woven bi_Woven Gi_Woven g_is_value k_is_value b_is_value G_is_value ⟨_, _, g_is_whole, k_is_whole, b_is_whole, G_is_whole⟩ g_is_rule k_is_rule b_is_rule G_is_rule ⟨_, _, g_is_row_of__is_value, k_is_row_of__is_value, b_is_row_of__is_value, G_is_row_of__is_value⟩ ⟨_, _, g_is_row_of__is_rule, k_is_row_of__is_rule, b_is_row_of__is_rule, G_is_row_of__is_rule⟩ bI_isinstance bI_tuple bI_len kb_Full____init___2_values kb_Still____init___2_back kb_Woven____init___2_rules
  have G_known := ok_known (Pr := l.prog) (wo := w) (base := base) (mg := mg) F_known ⟨_, _, g_hung, k_hung, b_hung, G_hung⟩ ⟨_, _, g_all_came, k_all_came, b_all_came, G_all_came⟩ ⟨_, _, g_values_of, k_values_of, b_values_of, G_values_of⟩
  have G_table := ok_table (Pr := l.prog) (wo := w) (base := base) (mg := mg) F_table XF_NotKnown G_NotKnown____init__ T_NotKnown b_NotKnown____init__ ⟨_, _, g_hung, k_hung, b_hung, G_hung⟩ ⟨_, _, g_values_of, k_values_of, b_values_of, G_values_of⟩ ⟨_, _, g_all_came, k_all_came, b_all_came, G_all_came⟩ ⟨_, _, g_way_out, k_way_out, b_way_out, G_way_out⟩ bI_sorted bI_list
  have G__law_way := ok__law_way (Pr := l.prog) (wo := w) (base := base) (mg := mg) F__law_way T_NotKnown T_NoCell T_NoNumber T_NotWhole T_NoHead T_ScrollError p_NotKnown_NoCell p_NotKnown_NoHead p_NotKnown_NoNumber p_NotKnown_NotKnown p_NotKnown_NotWhole p_NotKnown_ScrollError xn_NotKnown_way ⟨_, _, g_table, k_table, b_table, G_table⟩ bI_isinstance
  have G__law_asked := ok__law_asked (Pr := l.prog) (wo := w) (base := base) (mg := mg) F__law_asked ⟨_, _, g__law_way, k__law_way, b__law_way, G__law_way⟩ ⟨_, _, g__law_all_came, k__law_all_came, b__law_all_came, G__law_all_came⟩ ⟨_, _, g__law_way_right, k__law_way_right, b__law_way_right, G__law_way_right⟩ ⟨_, _, g_known, k_known, b_known, G_known⟩ ⟨_, _, g_table, k_table, b_table, G_table⟩
  have G__law_chain_right := ok__law_chain_right (Pr := l.prog) (wo := w) (base := base) (mg := mg) F__law_chain_right ⟨_, _, g__law_chain, k__law_chain, b__law_chain, G__law_chain⟩ ⟨_, _, g__law_asked, k__law_asked, b__law_asked, G__law_asked⟩ ⟨_, _, g__law_draw, k__law_draw, b__law_draw, G__law_draw⟩ ⟨_, _, g_leaf_of, k_leaf_of, b_leaf_of, G_leaf_of⟩ bI_dict bI_range
  have G_law := ok_law (Pr := l.prog) (wo := w) (base := base) (mg := mg) F_law ⟨_, _, g__law_well, k__law_well, b__law_well, G__law_well⟩ ⟨_, _, g__law_leaves, k__law_leaves, b__law_leaves, G__law_leaves⟩ ⟨_, _, g__law_came, k__law_came, b__law_came, G__law_came⟩ ⟨_, _, g__law_draw, k__law_draw, b__law_draw, G__law_draw⟩ ⟨_, _, g__law_asked, k__law_asked, b__law_asked, G__law_asked⟩ ⟨_, _, g__law_chain_right, k__law_chain_right, b__law_chain_right, G__law_chain_right⟩ ⟨_, _, g_leaf_of, k_leaf_of, b_leaf_of, G_leaf_of⟩ bI_dict bI_range bI_len bI_sorted bI_list
  exact G_law.imp fun vs H Q E h => top_of law_ok h
theorem all_he {l : PySem.W.OpenLaw} {w : World} {K : PySem.W.Frag} {h : Heap} {mg : Str → Option Value} {fa : Addr} (X : K.In h) (G : h.Ns mainGlobals mg) (hfa : mg "law" = some (.ref fa)) (c : He.SaysX [] fnH [] tfH exH w h K)
    : ∃ fd : FuncData, (∀ (s : Shared) (v : Value), BindsTo s fd ⟨[v], []⟩ [("_law_script", v)]) ∧ ∀ base : Heap, K.In base → base.Ns mainGlobals mg → FnOk l.prog w K mg base CX0 11 fa fd ["_law_script"] (spTop K) := by
  have m_ : exQ_0 K = true := c.more
  have mp_0 : exP_0 K = true := and_l (b := exQ_1 K) m_
  replace m_ : exQ_1 K = true := and_r (a := exP_0 K) m_
  have mp_1 : exP_1 K = true := m_
  have m0 : (exH_0 K).all id = true := and_l (mp_0)
  have m1 : (exH_1 K).all id = true := and_l (and_r (mp_0))
  have m2 : (exH_2 K).all id = true := and_l (and_r (and_r (mp_0)))
  have m3 : (exH_3 K).all id = true := and_l (and_r (and_r (and_r (mp_0))))
  have m4 : (exH_4 K).all id = true := and_l (and_r (and_r (and_r (and_r (mp_0)))))
  have m5 : (exH_5 K).all id = true := and_l (and_r (and_r (and_r (and_r (and_r (mp_0))))))
  have m6 : (exH_6 K).all id = true := and_l (and_r (and_r (and_r (and_r (and_r (and_r (mp_0)))))))
  have m7 : (exH_7 K).all id = true := and_l (and_r (and_r (and_r (and_r (and_r (and_r (and_r (mp_0))))))))
  have m8 : (exH_8 K).all id = true := and_l (and_r (and_r (and_r (and_r (and_r (and_r (and_r (and_r (mp_0)))))))))
  have m9 : (exH_9 K).all id = true := and_r (and_r (and_r (and_r (and_r (and_r (and_r (and_r (and_r (mp_0)))))))))
  have m10 : (exH_10 K).all id = true := and_l (mp_1)
  have m11 : (exH_11 K).all id = true := and_l (and_r (mp_1))
  have m12 : (exH_12 K).all id = true := and_l (and_r (and_r (mp_1)))
  have m13 : (exH_13 K).all id = true := and_r (and_r (and_r (mp_1)))
  obtain ⟨_, ⟨oc_needs_of, od_needs_of, dV_needs_of, kV_needs_of, dc_needs_of, pm_needs_of, an_needs_of, cd_needs_of, ct_needs_of, sl_needs_of, rfl, l_needs_of, c_needs_of, dd_needs_of, _⟩, k_needs_of⟩ := c.t.d.def_ 0 (d := dH_0) rfl
  obtain rfl := dfl_none dd_needs_of
  obtain ⟨_, ⟨oc_hung, od_hung, dV_hung, kV_hung, dc_hung, pm_hung, an_hung, cd_hung, ct_hung, sl_hung, rfl, l_hung, c_hung, dd_hung, _⟩, k_hung⟩ := c.t.d.def_ 1 (d := dH_1) rfl
  obtain rfl := dfl_none dd_hung
  obtain ⟨_, ⟨oc_values_of, od_values_of, dV_values_of, kV_values_of, dc_values_of, pm_values_of, an_values_of, cd_values_of, ct_values_of, sl_values_of, rfl, l_values_of, c_values_of, dd_values_of, _⟩, k_values_of⟩ := c.t.d.def_ 2 (d := dH_2) rfl
  obtain rfl := dfl_none dd_values_of
  obtain ⟨_, ⟨oc_all_came, od_all_came, dV_all_came, kV_all_came, dc_all_came, pm_all_came, an_all_came, cd_all_came, ct_all_came, sl_all_came, rfl, l_all_came, c_all_came, dd_all_came, _⟩, k_all_came⟩ := c.t.d.def_ 3 (d := dH_3) rfl
  obtain rfl := dfl_none dd_all_came
  obtain ⟨_, ⟨oc_known, od_known, dV_known, kV_known, dc_known, pm_known, an_known, cd_known, ct_known, sl_known, rfl, l_known, c_known, dd_known, _⟩, k_known⟩ := c.t.d.def_ 4 (d := dH_4) rfl
  obtain rfl := dfl_none dd_known
  obtain ⟨_, ⟨oc_way_out, od_way_out, dV_way_out, kV_way_out, dc_way_out, pm_way_out, an_way_out, cd_way_out, ct_way_out, sl_way_out, rfl, l_way_out, c_way_out, dd_way_out, _⟩, k_way_out⟩ := c.t.d.def_ 5 (d := dH_5) rfl
  obtain rfl := dfl_none dd_way_out
  obtain ⟨_, ⟨oc_table, od_table, dV_table, kV_table, dc_table, pm_table, an_table, cd_table, ct_table, sl_table, rfl, l_table, c_table, dd_table, _⟩, k_table⟩ := c.t.d.def_ 6 (d := dH_6) rfl
  obtain rfl := dfl_none dd_table
  obtain ⟨_, ⟨oc_is_whole, od_is_whole, dV_is_whole, kV_is_whole, dc_is_whole, pm_is_whole, an_is_whole, cd_is_whole, ct_is_whole, sl_is_whole, rfl, l_is_whole, c_is_whole, dd_is_whole, _⟩, k_is_whole⟩ := c.t.d.def_ 7 (d := dH_7) rfl
  obtain rfl := dfl_none dd_is_whole
  obtain ⟨_, ⟨oc_is_need, od_is_need, dV_is_need, kV_is_need, dc_is_need, pm_is_need, an_is_need, cd_is_need, ct_is_need, sl_is_need, rfl, l_is_need, c_is_need, dd_is_need, _⟩, k_is_need⟩ := c.t.d.def_ 8 (d := dH_8) rfl
  obtain rfl := dfl_none dd_is_need
  obtain ⟨_, ⟨oc_rule_of, od_rule_of, dV_rule_of, kV_rule_of, dc_rule_of, pm_rule_of, an_rule_of, cd_rule_of, ct_rule_of, sl_rule_of, rfl, l_rule_of, c_rule_of, dd_rule_of, _⟩, k_rule_of⟩ := c.t.d.def_ 9 (d := dH_9) rfl
  obtain rfl := dfl_none dd_rule_of
  obtain ⟨_, ⟨oc_is_value, od_is_value, dV_is_value, kV_is_value, dc_is_value, pm_is_value, an_is_value, cd_is_value, ct_is_value, sl_is_value, rfl, l_is_value, c_is_value, dd_is_value, _⟩, k_is_value⟩ := c.t.d.def_ 10 (d := dH_10) rfl
  obtain rfl := dfl_none dd_is_value
  obtain ⟨_, ⟨oc_is_rule, od_is_rule, dV_is_rule, kV_is_rule, dc_is_rule, pm_is_rule, an_is_rule, cd_is_rule, ct_is_rule, sl_is_rule, rfl, l_is_rule, c_is_rule, dd_is_rule, _⟩, k_is_rule⟩ := c.t.d.def_ 11 (d := dH_11) rfl
  obtain rfl := dfl_none dd_is_rule
  obtain ⟨_, ⟨oc_is_row_of, od_is_row_of, dV_is_row_of, kV_is_row_of, dc_is_row_of, pm_is_row_of, an_is_row_of, cd_is_row_of, ct_is_row_of, sl_is_row_of, rfl, l_is_row_of, c_is_row_of, dd_is_row_of, _⟩, k_is_row_of⟩ := c.t.d.def_ 12 (d := dH_12) rfl
  obtain rfl := dfl_none dd_is_row_of
  obtain ⟨_, ⟨oc_leaf_of, od_leaf_of, dV_leaf_of, kV_leaf_of, dc_leaf_of, pm_leaf_of, an_leaf_of, cd_leaf_of, ct_leaf_of, sl_leaf_of, rfl, l_leaf_of, c_leaf_of, dd_leaf_of, _⟩, k_leaf_of⟩ := c.t.d.def_ 13 (d := dH_13) rfl
  obtain rfl := dfl_none dd_leaf_of
  obtain ⟨_, ⟨oc__law_cell_at, od__law_cell_at, dV__law_cell_at, kV__law_cell_at, dc__law_cell_at, pm__law_cell_at, an__law_cell_at, cd__law_cell_at, ct__law_cell_at, sl__law_cell_at, rfl, l__law_cell_at, c__law_cell_at, dd__law_cell_at, _⟩, k__law_cell_at⟩ := c.t.d.def_ 14 (d := dH_14) rfl
  obtain rfl := dfl_none dd__law_cell_at
  obtain ⟨_, ⟨oc__law_well, od__law_well, dV__law_well, kV__law_well, dc__law_well, pm__law_well, an__law_well, cd__law_well, ct__law_well, sl__law_well, rfl, l__law_well, c__law_well, dd__law_well, _⟩, k__law_well⟩ := c.t.d.def_ 15 (d := dH_15) rfl
  obtain rfl := dfl_none dd__law_well
  obtain ⟨_, ⟨oc__law_draw, od__law_draw, dV__law_draw, kV__law_draw, dc__law_draw, pm__law_draw, an__law_draw, cd__law_draw, ct__law_draw, sl__law_draw, rfl, l__law_draw, c__law_draw, dd__law_draw, _⟩, k__law_draw⟩ := c.t.d.def_ 16 (d := dH_16) rfl
  obtain rfl := dfl_none dd__law_draw
  obtain ⟨_, ⟨oc__law_whole, od__law_whole, dV__law_whole, kV__law_whole, dc__law_whole, pm__law_whole, an__law_whole, cd__law_whole, ct__law_whole, sl__law_whole, rfl, l__law_whole, c__law_whole, dd__law_whole, _⟩, k__law_whole⟩ := c.t.d.def_ 17 (d := dH_17) rfl
  obtain rfl := dfl_none dd__law_whole
  obtain ⟨_, ⟨oc__law_back, od__law_back, dV__law_back, kV__law_back, dc__law_back, pm__law_back, an__law_back, cd__law_back, ct__law_back, sl__law_back, rfl, l__law_back, c__law_back, dd__law_back, _⟩, k__law_back⟩ := c.t.d.def_ 18 (d := dH_18) rfl
  obtain rfl := dfl_none dd__law_back
  obtain ⟨_, ⟨oc__law_rule, od__law_rule, dV__law_rule, kV__law_rule, dc__law_rule, pm__law_rule, an__law_rule, cd__law_rule, ct__law_rule, sl__law_rule, rfl, l__law_rule, c__law_rule, dd__law_rule, _⟩, k__law_rule⟩ := c.t.d.def_ 19 (d := dH_19) rfl
  obtain rfl := dfl_none dd__law_rule
  obtain ⟨_, ⟨oc__law_leaf, od__law_leaf, dV__law_leaf, kV__law_leaf, dc__law_leaf, pm__law_leaf, an__law_leaf, cd__law_leaf, ct__law_leaf, sl__law_leaf, rfl, l__law_leaf, c__law_leaf, dd__law_leaf, _⟩, k__law_leaf⟩ := c.t.d.def_ 20 (d := dH_20) rfl
  obtain rfl := dfl_none dd__law_leaf
  obtain ⟨_, ⟨oc__law_slots, od__law_slots, dV__law_slots, kV__law_slots, dc__law_slots, pm__law_slots, an__law_slots, cd__law_slots, ct__law_slots, sl__law_slots, rfl, l__law_slots, c__law_slots, dd__law_slots, _⟩, k__law_slots⟩ := c.t.d.def_ 21 (d := dH_21) rfl
  obtain rfl := dfl_none dd__law_slots
  obtain ⟨_, ⟨oc__law_leaves, od__law_leaves, dV__law_leaves, kV__law_leaves, dc__law_leaves, pm__law_leaves, an__law_leaves, cd__law_leaves, ct__law_leaves, sl__law_leaves, rfl, l__law_leaves, c__law_leaves, dd__law_leaves, _⟩, k__law_leaves⟩ := c.t.d.def_ 22 (d := dH_22) rfl
  obtain rfl := dfl_none dd__law_leaves
  obtain ⟨_, ⟨oc__law_needs, od__law_needs, dV__law_needs, kV__law_needs, dc__law_needs, pm__law_needs, an__law_needs, cd__law_needs, ct__law_needs, sl__law_needs, rfl, l__law_needs, c__law_needs, dd__law_needs, _⟩, k__law_needs⟩ := c.t.d.def_ 23 (d := dH_23) rfl
  obtain rfl := dfl_none dd__law_needs
  obtain ⟨_, ⟨oc__law_came, od__law_came, dV__law_came, kV__law_came, dc__law_came, pm__law_came, an__law_came, cd__law_came, ct__law_came, sl__law_came, rfl, l__law_came, c__law_came, dd__law_came, _⟩, k__law_came⟩ := c.t.d.def_ 24 (d := dH_24) rfl
  obtain rfl := dfl_none dd__law_came
  obtain ⟨_, ⟨oc__law_all_came, od__law_all_came, dV__law_all_came, kV__law_all_came, dc__law_all_came, pm__law_all_came, an__law_all_came, cd__law_all_came, ct__law_all_came, sl__law_all_came, rfl, l__law_all_came, c__law_all_came, dd__law_all_came, _⟩, k__law_all_came⟩ := c.t.d.def_ 25 (d := dH_25) rfl
  obtain rfl := dfl_none dd__law_all_came
  obtain ⟨_, ⟨oc__law_way, od__law_way, dV__law_way, kV__law_way, dc__law_way, pm__law_way, an__law_way, cd__law_way, ct__law_way, sl__law_way, rfl, l__law_way, c__law_way, dd__law_way, _⟩, k__law_way⟩ := c.t.d.def_ 26 (d := dH_26) rfl
  obtain rfl := dfl_none dd__law_way
  obtain ⟨_, ⟨oc__law_way_right, od__law_way_right, dV__law_way_right, kV__law_way_right, dc__law_way_right, pm__law_way_right, an__law_way_right, cd__law_way_right, ct__law_way_right, sl__law_way_right, rfl, l__law_way_right, c__law_way_right, dd__law_way_right, _⟩, k__law_way_right⟩ := c.t.d.def_ 27 (d := dH_27) rfl
  obtain rfl := dfl_none dd__law_way_right
  obtain ⟨_, ⟨oc__law_asked, od__law_asked, dV__law_asked, kV__law_asked, dc__law_asked, pm__law_asked, an__law_asked, cd__law_asked, ct__law_asked, sl__law_asked, rfl, l__law_asked, c__law_asked, dd__law_asked, _⟩, k__law_asked⟩ := c.t.d.def_ 28 (d := dH_28) rfl
  obtain rfl := dfl_none dd__law_asked
  obtain ⟨_, ⟨oc__law_chain, od__law_chain, dV__law_chain, kV__law_chain, dc__law_chain, pm__law_chain, an__law_chain, cd__law_chain, ct__law_chain, sl__law_chain, rfl, l__law_chain, c__law_chain, dd__law_chain, _⟩, k__law_chain⟩ := c.t.d.def_ 29 (d := dH_29) rfl
  obtain rfl := dfl_none dd__law_chain
  obtain ⟨_, ⟨oc__law_chain_right, od__law_chain_right, dV__law_chain_right, kV__law_chain_right, dc__law_chain_right, pm__law_chain_right, an__law_chain_right, cd__law_chain_right, ct__law_chain_right, sl__law_chain_right, rfl, l__law_chain_right, c__law_chain_right, dd__law_chain_right, _⟩, k__law_chain_right⟩ := c.t.d.def_ 30 (d := dH_30) rfl
  obtain rfl := dfl_none dd__law_chain_right
  obtain ⟨_, ⟨oc_law, od_law, dV_law, kV_law, dc_law, pm_law, an_law, cd_law, ct_law, sl_law, rfl, l_law, c_law, dd_law, _⟩, k_law⟩ := c.t.d.def_ 31 (d := dH_31) rfl
  obtain rfl := dfl_none dd_law
  obtain ⟨_, ⟨oc_Plain__needs, od_Plain__needs, dV_Plain__needs, kV_Plain__needs, dc_Plain__needs, pm_Plain__needs, an_Plain__needs, cd_Plain__needs, ct_Plain__needs, sl_Plain__needs, rfl, l_Plain__needs, c_Plain__needs, dd_Plain__needs, _⟩, k_Plain__needs⟩ := c.t.d.def_ 32 (d := dH_32) rfl
  obtain rfl := dfl_none dd_Plain__needs
  obtain ⟨_, ⟨oc_Plain__value, od_Plain__value, dV_Plain__value, kV_Plain__value, dc_Plain__value, pm_Plain__value, an_Plain__value, cd_Plain__value, ct_Plain__value, sl_Plain__value, rfl, l_Plain__value, c_Plain__value, dd_Plain__value, _⟩, k_Plain__value⟩ := c.t.d.def_ 33 (d := dH_33) rfl
  obtain rfl := dfl_none dd_Plain__value
  obtain ⟨_, ⟨oc_Plain____init__, od_Plain____init__, dV_Plain____init__, kV_Plain____init__, dc_Plain____init__, pm_Plain____init__, an_Plain____init__, cd_Plain____init__, ct_Plain____init__, sl_Plain____init__, rfl, l_Plain____init__, c_Plain____init__, dd_Plain____init__, _⟩, k_Plain____init__⟩ := c.t.d.def_ 34 (d := dH_34) rfl
  obtain rfl := dfl_none dd_Plain____init__
  obtain ⟨_, ⟨oc_Moved__needs, od_Moved__needs, dV_Moved__needs, kV_Moved__needs, dc_Moved__needs, pm_Moved__needs, an_Moved__needs, cd_Moved__needs, ct_Moved__needs, sl_Moved__needs, rfl, l_Moved__needs, c_Moved__needs, dd_Moved__needs, _⟩, k_Moved__needs⟩ := c.t.d.def_ 35 (d := dH_35) rfl
  obtain rfl := dfl_none dd_Moved__needs
  obtain ⟨_, ⟨oc_Moved__value, od_Moved__value, dV_Moved__value, kV_Moved__value, dc_Moved__value, pm_Moved__value, an_Moved__value, cd_Moved__value, ct_Moved__value, sl_Moved__value, rfl, l_Moved__value, c_Moved__value, dd_Moved__value, _⟩, k_Moved__value⟩ := c.t.d.def_ 36 (d := dH_36) rfl
  obtain rfl := dfl_none dd_Moved__value
  obtain ⟨_, ⟨oc_Moved____init__, od_Moved____init__, dV_Moved____init__, kV_Moved____init__, dc_Moved____init__, pm_Moved____init__, an_Moved____init__, cd_Moved____init__, ct_Moved____init__, sl_Moved____init__, rfl, l_Moved____init__, c_Moved____init__, dd_Moved____init__, _⟩, k_Moved____init__⟩ := c.t.d.def_ 37 (d := dH_37) rfl
  obtain rfl := dfl_none dd_Moved____init__
  obtain ⟨_, ⟨oc_Mixed__needs, od_Mixed__needs, dV_Mixed__needs, kV_Mixed__needs, dc_Mixed__needs, pm_Mixed__needs, an_Mixed__needs, cd_Mixed__needs, ct_Mixed__needs, sl_Mixed__needs, rfl, l_Mixed__needs, c_Mixed__needs, dd_Mixed__needs, _⟩, k_Mixed__needs⟩ := c.t.d.def_ 38 (d := dH_38) rfl
  obtain rfl := dfl_none dd_Mixed__needs
  obtain ⟨_, ⟨oc_Mixed__value, od_Mixed__value, dV_Mixed__value, kV_Mixed__value, dc_Mixed__value, pm_Mixed__value, an_Mixed__value, cd_Mixed__value, ct_Mixed__value, sl_Mixed__value, rfl, l_Mixed__value, c_Mixed__value, dd_Mixed__value, _⟩, k_Mixed__value⟩ := c.t.d.def_ 39 (d := dH_39) rfl
  obtain rfl := dfl_none dd_Mixed__value
  obtain ⟨_, ⟨oc_Mixed____init__, od_Mixed____init__, dV_Mixed____init__, kV_Mixed____init__, dc_Mixed____init__, pm_Mixed____init__, an_Mixed____init__, cd_Mixed____init__, ct_Mixed____init__, sl_Mixed____init__, rfl, l_Mixed____init__, c_Mixed____init__, dd_Mixed____init__, _⟩, k_Mixed____init__⟩ := c.t.d.def_ 40 (d := dH_40) rfl
  obtain rfl := dfl_none dd_Mixed____init__
  obtain ⟨_, ⟨oc_Full__rule, od_Full__rule, dV_Full__rule, kV_Full__rule, dc_Full__rule, pm_Full__rule, an_Full__rule, cd_Full__rule, ct_Full__rule, sl_Full__rule, rfl, l_Full__rule, c_Full__rule, dd_Full__rule, _⟩, k_Full__rule⟩ := c.t.d.def_ 41 (d := dH_41) rfl
  obtain rfl := dfl_none dd_Full__rule
  obtain ⟨_, ⟨oc_Full____init__, od_Full____init__, dV_Full____init__, kV_Full____init__, dc_Full____init__, pm_Full____init__, an_Full____init__, cd_Full____init__, ct_Full____init__, sl_Full____init__, rfl, l_Full____init__, c_Full____init__, dd_Full____init__, _⟩, k_Full____init__⟩ := c.t.d.def_ 42 (d := dH_42) rfl
  obtain rfl := dfl_none dd_Full____init__
  obtain ⟨_, ⟨oc_Still__rule, od_Still__rule, dV_Still__rule, kV_Still__rule, dc_Still__rule, pm_Still__rule, an_Still__rule, cd_Still__rule, ct_Still__rule, sl_Still__rule, rfl, l_Still__rule, c_Still__rule, dd_Still__rule, _⟩, k_Still__rule⟩ := c.t.d.def_ 43 (d := dH_43) rfl
  obtain rfl := dfl_none dd_Still__rule
  obtain ⟨_, ⟨oc_Still____init__, od_Still____init__, dV_Still____init__, kV_Still____init__, dc_Still____init__, pm_Still____init__, an_Still____init__, cd_Still____init__, ct_Still____init__, sl_Still____init__, rfl, l_Still____init__, c_Still____init__, dd_Still____init__, _⟩, k_Still____init__⟩ := c.t.d.def_ 44 (d := dH_44) rfl
  obtain rfl := dfl_none dd_Still____init__
  obtain ⟨_, ⟨oc_Woven__rule, od_Woven__rule, dV_Woven__rule, kV_Woven__rule, dc_Woven__rule, pm_Woven__rule, an_Woven__rule, cd_Woven__rule, ct_Woven__rule, sl_Woven__rule, rfl, l_Woven__rule, c_Woven__rule, dd_Woven__rule, _⟩, k_Woven__rule⟩ := c.t.d.def_ 45 (d := dH_45) rfl
  obtain rfl := dfl_none dd_Woven__rule
  obtain ⟨_, ⟨oc_Woven____init__, od_Woven____init__, dV_Woven____init__, kV_Woven____init__, dc_Woven____init__, pm_Woven____init__, an_Woven____init__, cd_Woven____init__, ct_Woven____init__, sl_Woven____init__, rfl, l_Woven____init__, c_Woven____init__, dd_Woven____init__, _⟩, k_Woven____init__⟩ := c.t.d.def_ 46 (d := dH_46) rfl
  obtain rfl := dfl_none dd_Woven____init__
  obtain ⟨_, ⟨oc_NotKnown____init__, od_NotKnown____init__, dV_NotKnown____init__, kV_NotKnown____init__, dc_NotKnown____init__, pm_NotKnown____init__, an_NotKnown____init__, cd_NotKnown____init__, ct_NotKnown____init__, sl_NotKnown____init__, rfl, l_NotKnown____init__, c_NotKnown____init__, dd_NotKnown____init__, _⟩, k_NotKnown____init__⟩ := c.t.d.def_ 47 (d := dH_47) rfl
  obtain rfl := dfl_none dd_NotKnown____init__
  obtain ⟨_, ⟨oc_Leaf____init__, od_Leaf____init__, dV_Leaf____init__, kV_Leaf____init__, dc_Leaf____init__, pm_Leaf____init__, an_Leaf____init__, cd_Leaf____init__, ct_Leaf____init__, sl_Leaf____init__, rfl, l_Leaf____init__, c_Leaf____init__, dd_Leaf____init__, _⟩, k_Leaf____init__⟩ := c.t.d.def_ 48 (d := dH_48) rfl
  obtain rfl := dfl_none dd_Leaf____init__
  exact all_mk (l := l) (w := w) X G hfa (C_Full := (He.ga K "Full")) (C_Leaf := (He.ga K "Leaf")) (C_Mixed := (He.ga K "Mixed")) (C_Moved := (He.ga K "Moved")) (C_NoCell := (He.ga K "NoCell")) (C_NoHead := (He.ga K "NoHead")) (C_NoLeaf := (He.ga K "NoLeaf")) (C_NoNumber := (He.ga K "NoNumber")) (C_NoRule := (He.ga K "NoRule")) (C_NotKnown := (He.ga K "NotKnown")) (C_NotWhole := (He.ga K "NotWhole")) (C_Plain := (He.ga K "Plain")) (C_ScrollError := (He.ga K "ScrollError")) (C_Still := (He.ga K "Still")) (C_Woven := (He.ga K "Woven")) (f_Full____init__ := (He.fAd K ("Full", some "__init__"))) (f_Full__rule := (He.fAd K ("Full", some "rule"))) (f_Leaf____init__ := (He.fAd K ("Leaf", some "__init__"))) (f_Mixed____init__ := (He.fAd K ("Mixed", some "__init__"))) (f_Mixed__needs := (He.fAd K ("Mixed", some "needs"))) (f_Mixed__value := (He.fAd K ("Mixed", some "value"))) (f_Moved____init__ := (He.fAd K ("Moved", some "__init__"))) (f_Moved__needs := (He.fAd K ("Moved", some "needs"))) (f_Moved__value := (He.fAd K ("Moved", some "value"))) (f_NotKnown____init__ := (He.fAd K ("NotKnown", some "__init__"))) (f_Plain____init__ := (He.fAd K ("Plain", some "__init__"))) (f_Plain__needs := (He.fAd K ("Plain", some "needs"))) (f_Plain__value := (He.fAd K ("Plain", some "value"))) (f_Still____init__ := (He.fAd K ("Still", some "__init__"))) (f_Still__rule := (He.fAd K ("Still", some "rule"))) (f_Woven____init__ := (He.fAd K ("Woven", some "__init__"))) (f_Woven__rule := (He.fAd K ("Woven", some "rule"))) (f__law_all_came := (He.fAd K ("_law_all_came", none))) (f__law_asked := (He.fAd K ("_law_asked", none))) (f__law_back := (He.fAd K ("_law_back", none))) (f__law_came := (He.fAd K ("_law_came", none))) (f__law_cell_at := (He.fAd K ("_law_cell_at", none))) (f__law_chain := (He.fAd K ("_law_chain", none))) (f__law_chain_right := (He.fAd K ("_law_chain_right", none))) (f__law_draw := (He.fAd K ("_law_draw", none))) (f__law_leaf := (He.fAd K ("_law_leaf", none))) (f__law_leaves := (He.fAd K ("_law_leaves", none))) (f__law_needs := (He.fAd K ("_law_needs", none))) (f__law_rule := (He.fAd K ("_law_rule", none))) (f__law_slots := (He.fAd K ("_law_slots", none))) (f__law_way := (He.fAd K ("_law_way", none))) (f__law_way_right := (He.fAd K ("_law_way_right", none))) (f__law_well := (He.fAd K ("_law_well", none))) (f__law_whole := (He.fAd K ("_law_whole", none))) (f_all_came := (He.fAd K ("all_came", none))) (f_hung := (He.fAd K ("hung", none))) (f_is_need := (He.fAd K ("is_need", none))) (f_is_row_of := (He.fAd K ("is_row_of", none))) (f_is_rule := (He.fAd K ("is_rule", none))) (f_is_value := (He.fAd K ("is_value", none))) (f_is_whole := (He.fAd K ("is_whole", none))) (f_known := (He.fAd K ("known", none))) (f_law := (He.fAd K ("law", none))) (f_leaf_of := (He.fAd K ("leaf_of", none))) (f_needs_of := (He.fAd K ("needs_of", none))) (f_rule_of := (He.fAd K ("rule_of", none))) (f_table := (He.fAd K ("table", none))) (f_values_of := (He.fAd K ("values_of", none))) (f_way_out := (He.fAd K ("way_out", none)))
    ((ex_fact m0 0 rfl))
    ((ex_fact m0 1 rfl))
    ((ex_fact m0 2 rfl))
    ((ex_fact m0 3 rfl))
    ((ex_fact m0 4 rfl))
    ((ex_fact m0 5 rfl))
    ((ex_fact m0 6 rfl))
    ((ex_fact m0 7 rfl))
    ((ex_fact m0 8 rfl))
    ((ex_fact m0 9 rfl))
    ((ex_fact m0 10 rfl))
    ((ex_fact m0 11 rfl))
    ((ex_fact m0 12 rfl))
    ((ex_fact m0 13 rfl))
    ((ex_fact m0 14 rfl))
    ((ex_fact m0 15 rfl))
    ((ex_fact m0 16 rfl))
    ((ex_fact m0 17 rfl))
    ((ex_fact m0 18 rfl))
    ((ex_fact m0 19 rfl))
    ((ex_fact m0 20 rfl))
    ((ex_fact m0 21 rfl))
    ((ex_fact m0 22 rfl))
    ((ex_fact m0 23 rfl))
    ((ex_fact m0 24 rfl))
    ((ex_fact m1 0 rfl))
    ((ex_fact m1 1 rfl))
    ((ex_fact m1 2 rfl))
    ((ex_fact m1 3 rfl))
    ((ex_fact m1 4 rfl))
    ((ex_fact m1 5 rfl))
    ((ex_fact m1 6 rfl))
    ((ex_fact m1 7 rfl))
    ((ex_fact m1 8 rfl))
    ((ex_fact m1 9 rfl))
    ((ex_fact m1 10 rfl))
    ((ex_fact m1 11 rfl))
    ((ex_fact m1 12 rfl))
    ((ex_fact m1 13 rfl))
    ((ex_fact m1 14 rfl))
    ((ex_fact m1 15 rfl))
    ((ex_fact m1 16 rfl))
    ((ex_fact m1 17 rfl))
    ((ex_fact m1 18 rfl))
    ((ex_fact m1 19 rfl))
    ((ex_fact m1 20 rfl))
    ((ex_fact m1 21 rfl))
    ((ex_fact m1 22 rfl))
    ((ex_fact m1 23 rfl))
    ((ex_fact m1 24 rfl))
    ((ex_fact m2 0 rfl))
    ((ex_fact m2 1 rfl))
    ((ex_fact m2 2 rfl))
    ((ex_fact m2 3 rfl))
    ((ex_fact m2 4 rfl))
    ((ex_fact m2 5 rfl))
    ((ex_fact m2 6 rfl))
    ((ex_fact m2 7 rfl))
    ((ex_fact m2 8 rfl))
    ((ex_fact m2 9 rfl))
    ((ex_fact m2 10 rfl))
    ((ex_fact m2 11 rfl))
    ((ex_fact m2 12 rfl))
    ((ex_fact m2 13 rfl))
    ((ex_fact m2 14 rfl))
    ((ex_fact m2 15 rfl))
    ((ex_fact m2 16 rfl))
    ((ex_fact m2 17 rfl))
    ((ex_fact m2 18 rfl))
    ((ex_fact m2 19 rfl))
    ((ex_fact m2 20 rfl))
    ((ex_fact m2 21 rfl))
    ((ex_fact m2 22 rfl))
    ((ex_fact m2 23 rfl))
    ((ex_fact m2 24 rfl))
    ((ex_fact m3 0 rfl))
    ((ex_fact m3 1 rfl))
    ((ex_fact m3 2 rfl))
    ((ex_fact m3 3 rfl))
    ((ex_fact m3 4 rfl))
    ((ex_fact m3 5 rfl))
    ((ex_fact m3 6 rfl))
    ((ex_fact m3 7 rfl))
    ((ex_fact m3 8 rfl))
    ((ex_fact m3 9 rfl))
    ((ex_fact m3 10 rfl))
    ((ex_fact m3 11 rfl))
    ((ex_fact m3 12 rfl))
    ((ex_fact m3 13 rfl))
    ((ex_fact m3 14 rfl))
    ((ex_fact m3 15 rfl))
    ((ex_fact m3 16 rfl))
    ((ex_fact m3 17 rfl))
    ((ex_fact m3 18 rfl))
    ((ex_fact m3 19 rfl))
    ((ex_fact m3 20 rfl))
    ((ex_fact m3 21 rfl))
    ((ex_fact m3 22 rfl))
    ((ex_fact m3 23 rfl))
    ((ex_fact m3 24 rfl))
    ((ex_fact m4 0 rfl))
    ((ex_fact m4 1 rfl))
    ((ex_fact m4 2 rfl))
    ((ex_fact m4 3 rfl))
    ((ex_fact m4 4 rfl))
    ((ex_fact m4 5 rfl))
    ((ex_fact m4 6 rfl))
    ((ex_fact m4 7 rfl))
    ((ex_fact m4 8 rfl))
    ((ex_fact m4 9 rfl))
    ((ex_fact m4 10 rfl))
    ((ex_fact m4 11 rfl))
    ((ex_fact m4 12 rfl))
    ((ex_fact m4 13 rfl))
    ((ex_fact m4 14 rfl))
    ((ex_fact m4 15 rfl))
    ((ex_fact m4 16 rfl))
    ((ex_fact m4 17 rfl))
    ((ex_fact m4 18 rfl))
    ((ex_fact m4 19 rfl))
    ((ex_fact m4 20 rfl))
    ((ex_fact m4 21 rfl))
    ((ex_fact m4 22 rfl))
    ((ex_fact m4 23 rfl))
    ((ex_fact m4 24 rfl))
    ((ex_fact m5 0 rfl))
    ((ex_fact m5 1 rfl))
    ((ex_fact m5 2 rfl))
    ((ex_fact m5 3 rfl))
    ((ex_fact m5 4 rfl))
    ((ex_fact m5 5 rfl))
    ((ex_fact m5 6 rfl))
    ((ex_fact m5 7 rfl))
    ((ex_fact m5 8 rfl))
    ((ex_fact m5 9 rfl))
    ((ex_fact m5 10 rfl))
    ((ex_fact m5 11 rfl))
    ((ex_fact m5 12 rfl))
    ((ex_fact m5 13 rfl))
    ((ex_fact m5 14 rfl))
    ((ex_fact m5 15 rfl))
    ((ex_fact m5 16 rfl))
    l_needs_of
    c_needs_of
    k_needs_of
    ((ex_fact m5 17 rfl))
    l_hung
    c_hung
    k_hung
    ((ex_fact m5 18 rfl))
    l_values_of
    c_values_of
    k_values_of
    ((ex_fact m5 19 rfl))
    l_all_came
    c_all_came
    k_all_came
    ((ex_fact m5 20 rfl))
    l_known
    c_known
    k_known
    ((ex_fact m5 21 rfl))
    l_way_out
    c_way_out
    k_way_out
    ((ex_fact m5 22 rfl))
    l_table
    c_table
    k_table
    ((ex_fact m5 23 rfl))
    l_is_whole
    c_is_whole
    k_is_whole
    ((ex_fact m5 24 rfl))
    l_is_need
    c_is_need
    k_is_need
    ((ex_fact m6 0 rfl))
    l_rule_of
    c_rule_of
    k_rule_of
    ((ex_fact m6 1 rfl))
    l_is_value
    c_is_value
    k_is_value
    ((ex_fact m6 2 rfl))
    l_is_rule
    c_is_rule
    k_is_rule
    ((ex_fact m6 3 rfl))
    l_is_row_of
    c_is_row_of
    k_is_row_of
    ((ex_fact m6 4 rfl))
    l_leaf_of
    c_leaf_of
    k_leaf_of
    ((ex_fact m6 5 rfl))
    l__law_cell_at
    c__law_cell_at
    k__law_cell_at
    ((ex_fact m6 6 rfl))
    l__law_well
    c__law_well
    k__law_well
    ((ex_fact m6 7 rfl))
    l__law_draw
    c__law_draw
    k__law_draw
    ((ex_fact m6 8 rfl))
    l__law_whole
    c__law_whole
    k__law_whole
    ((ex_fact m6 9 rfl))
    l__law_back
    c__law_back
    k__law_back
    ((ex_fact m6 10 rfl))
    l__law_rule
    c__law_rule
    k__law_rule
    ((ex_fact m6 11 rfl))
    l__law_leaf
    c__law_leaf
    k__law_leaf
    ((ex_fact m6 12 rfl))
    l__law_slots
    c__law_slots
    k__law_slots
    ((ex_fact m6 13 rfl))
    l__law_leaves
    c__law_leaves
    k__law_leaves
    ((ex_fact m6 14 rfl))
    l__law_needs
    c__law_needs
    k__law_needs
    ((ex_fact m6 15 rfl))
    l__law_came
    c__law_came
    k__law_came
    ((ex_fact m6 16 rfl))
    l__law_all_came
    c__law_all_came
    k__law_all_came
    ((ex_fact m6 17 rfl))
    l__law_way
    c__law_way
    k__law_way
    ((ex_fact m6 18 rfl))
    l__law_way_right
    c__law_way_right
    k__law_way_right
    ((ex_fact m6 19 rfl))
    l__law_asked
    c__law_asked
    k__law_asked
    ((ex_fact m6 20 rfl))
    l__law_chain
    c__law_chain
    k__law_chain
    ((ex_fact m6 21 rfl))
    l__law_chain_right
    c__law_chain_right
    k__law_chain_right
    ((ex_fact m6 22 rfl))
    l_law
    c_law
    k_law
    ((ex_fact m6 23 rfl))
    ((ex_fact m6 24 rfl))
    l_Plain__needs
    c_Plain__needs
    k_Plain__needs
    ((ex_fact m7 0 rfl))
    ((ex_fact m7 1 rfl))
    l_Plain__value
    c_Plain__value
    k_Plain__value
    ((ex_fact m7 2 rfl))
    ((ex_fact m7 3 rfl))
    l_Plain____init__
    c_Plain____init__
    k_Plain____init__
    ((ex_fact m7 4 rfl))
    ((ex_fact m7 5 rfl))
    l_Moved__needs
    c_Moved__needs
    k_Moved__needs
    ((ex_fact m7 6 rfl))
    ((ex_fact m7 7 rfl))
    l_Moved__value
    c_Moved__value
    k_Moved__value
    ((ex_fact m7 8 rfl))
    ((ex_fact m7 9 rfl))
    l_Moved____init__
    c_Moved____init__
    k_Moved____init__
    ((ex_fact m7 10 rfl))
    ((ex_fact m7 11 rfl))
    l_Mixed__needs
    c_Mixed__needs
    k_Mixed__needs
    ((ex_fact m7 12 rfl))
    ((ex_fact m7 13 rfl))
    l_Mixed__value
    c_Mixed__value
    k_Mixed__value
    ((ex_fact m7 14 rfl))
    ((ex_fact m7 15 rfl))
    l_Mixed____init__
    c_Mixed____init__
    k_Mixed____init__
    ((ex_fact m7 16 rfl))
    ((ex_fact m7 17 rfl))
    l_Full__rule
    c_Full__rule
    k_Full__rule
    ((ex_fact m7 18 rfl))
    ((ex_fact m7 19 rfl))
    l_Full____init__
    c_Full____init__
    k_Full____init__
    ((ex_fact m7 20 rfl))
    ((ex_fact m7 21 rfl))
    l_Still__rule
    c_Still__rule
    k_Still__rule
    ((ex_fact m7 22 rfl))
    ((ex_fact m7 23 rfl))
    l_Still____init__
    c_Still____init__
    k_Still____init__
    ((ex_fact m7 24 rfl))
    ((ex_fact m8 0 rfl))
    l_Woven__rule
    c_Woven__rule
    k_Woven__rule
    ((ex_fact m8 1 rfl))
    ((ex_fact m8 2 rfl))
    l_Woven____init__
    c_Woven____init__
    k_Woven____init__
    ((ex_fact m8 3 rfl))
    ((ex_fact m8 4 rfl))
    l_NotKnown____init__
    c_NotKnown____init__
    k_NotKnown____init__
    ((ex_fact m8 5 rfl))
    ((ex_fact m8 6 rfl))
    l_Leaf____init__
    c_Leaf____init__
    k_Leaf____init__
    ((ex_fact m8 7 rfl))
    ((ex_fact m8 8 rfl))
    (find_cls (ex_fact m8 9 rfl))
    ((ex_fact m8 10 rfl))
    ((ex_fact m8 11 rfl))
    ((ex_fact m8 12 rfl))
    ((ex_fact m8 13 rfl))
    ((ex_fact m8 14 rfl))
    ((ex_fact m8 15 rfl))
    ((ex_fact m8 16 rfl))
    ((ex_fact m8 17 rfl))
    ((ex_fact m8 18 rfl))
    ((ex_fact m8 19 rfl))
    ((ex_fact m8 20 rfl))
    ((ex_fact m8 21 rfl))
    ((ex_fact m8 22 rfl))
    ((ex_fact m8 23 rfl))
    ((ex_fact m8 24 rfl))
    ((ex_fact m9 0 rfl))
    ((ex_fact m9 1 rfl))
    ((ex_fact m9 2 rfl))
    ((ex_fact m9 3 rfl))
    ((ex_fact m9 4 rfl))
    ((ex_fact m9 5 rfl))
    ((ex_fact m9 6 rfl))
    ((ex_fact m9 7 rfl))
    ((ex_fact m9 8 rfl))
    ((ex_fact m9 9 rfl))
    ((ex_fact m9 10 rfl))
    ((ex_fact m9 11 rfl))
    ((ex_fact m9 12 rfl))
    ((ex_fact m9 13 rfl))
    ((ex_fact m9 14 rfl))
    ((ex_fact m9 15 rfl))
    ((ex_fact m9 16 rfl))
    ((ex_fact m9 17 rfl))
    ((ex_fact m9 18 rfl))
    ((ex_fact m9 19 rfl))
    ((ex_fact m9 20 rfl))
    ((ex_fact m9 21 rfl))
    ((ex_fact m9 22 rfl))
    ((ex_fact m9 23 rfl))
    ((ex_fact m9 24 rfl))
    ((ex_fact m10 0 rfl))
    ((ex_fact m10 1 rfl))
    ((ex_fact m10 2 rfl))
    ((ex_fact m10 3 rfl))
    ((ex_fact m10 4 rfl))
    ((ex_fact m10 5 rfl))
    ((ex_fact m10 6 rfl))
    ((ex_fact m10 7 rfl))
    ((ex_fact m10 8 rfl))
    ((ex_fact m10 9 rfl))
    ((ex_fact m10 10 rfl))
    ((ex_fact m10 11 rfl))
    ((ex_fact m10 12 rfl))
    ((ex_fact m10 13 rfl))
    ((ex_fact m10 14 rfl))
    ((ex_fact m10 15 rfl))
    ((ex_fact m10 16 rfl))
    ((ex_fact m10 17 rfl))
    ((ex_fact m10 18 rfl))
    ((ex_fact m10 19 rfl))
    ((ex_fact m10 20 rfl))
    ((ex_fact m10 21 rfl))
    ((ex_fact m10 22 rfl))
    ((ex_fact m10 23 rfl))
    ((ex_fact m10 24 rfl))
    ((ex_fact m11 0 rfl))
    ((ex_fact m11 1 rfl))
    ((ex_fact m11 2 rfl))
    ((ex_fact m11 3 rfl))
    ((ex_fact m11 4 rfl))
    ((ex_fact m11 5 rfl))
    ((ex_fact m11 6 rfl))
    ((ex_fact m11 7 rfl))
    ((ex_fact m11 8 rfl))
    ((ex_fact m11 9 rfl))
    ((ex_fact m11 10 rfl))
    ((ex_fact m11 11 rfl))
    ((ex_fact m11 12 rfl))
    ((ex_fact m11 13 rfl))
    ((ex_fact m11 14 rfl))
    ((ex_fact m11 15 rfl))
    ((ex_fact m11 16 rfl))
    ((ex_fact m11 17 rfl))
    ((ex_fact m11 18 rfl))
    ((ex_fact m11 19 rfl))
    ((ex_fact m11 20 rfl))
    ((ex_fact m11 21 rfl))
    ((ex_fact m11 22 rfl))
    ((ex_fact m11 23 rfl))
    ((ex_fact m11 24 rfl))
    ((ex_fact m12 0 rfl))
    ((ex_fact m12 1 rfl))
    ((ex_fact m12 2 rfl))
    ((ex_fact m12 3 rfl))
    ((ex_fact m12 4 rfl))
    ((ex_fact m12 5 rfl))
    ((ex_fact m12 6 rfl))
    ((ex_fact m12 7 rfl))
    ((ex_fact m12 8 rfl))
    ((ex_fact m12 9 rfl))
    ((ex_fact m12 10 rfl))
    ((ex_fact m12 11 rfl))
    ((ex_fact m12 12 rfl))
    ((ex_fact m12 13 rfl))
    ((ex_fact m12 14 rfl))
    ((ex_fact m12 15 rfl))
    ((ex_fact m12 16 rfl))
    ((ex_fact m12 17 rfl))
    ((ex_fact m12 18 rfl))
    ((ex_fact m12 19 rfl))
    ((ex_fact m12 20 rfl))
    ((ex_fact m12 21 rfl))
    ((ex_fact m12 22 rfl))
    ((ex_fact m12 23 rfl))
    ((ex_fact m12 24 rfl))
    ((ex_fact m13 0 rfl))
    ((ex_fact m13 1 rfl))
    ((ex_fact m13 2 rfl))
    ((ex_fact m13 3 rfl))
    ((ex_fact m13 4 rfl))
    ((ex_fact m13 5 rfl))
    ((ex_fact m13 6 rfl))
    ((ex_fact m13 7 rfl))
    ((ex_fact m13 8 rfl))
    ((ex_fact m13 9 rfl))
    ((ex_fact m13 10 rfl))
    ((ex_fact m13 11 rfl))
    ((ex_fact m13 12 rfl))
    ((ex_fact m13 13 rfl))
    ((ex_fact m13 14 rfl))
    ((ex_fact m13 15 rfl))
    ((ex_fact m13 16 rfl))
    ((ex_fact m13 17 rfl))
end A
open PySem PySem.W PySem.Calls PyProof.Rows
set_option maxRecDepth 100000 in
set_option maxHeartbeats 0 in
theorem PySem.Challenge.cw_lanescroll_k28_ways_to_what_has_not_come_holds : PySem.Challenge.rw_lanescroll_k28_ways_to_what_has_not_come.Holds := by
  w_on; o_law
  refine HandSHeadRun.head_any (r := OpenLaw.row PySem.Challenge.rw_lanescroll_k28_ways_to_what_has_not_come) (q := view (OpenLaw.row PySem.Challenge.rw_lanescroll_k28_ways_to_what_has_not_come).prog [53]) (H := A.hkH) (ob := A.obH) (M := 30000) (loose := A.looseH) (d := HandSHeadRun.topDef (OpenLaw.row PySem.Challenge.rw_lanescroll_k28_ways_to_what_has_not_come).prog 53) (kwd := []) A.obH_eq
    (by kernel_rfl) (fun s => by kernel_rfl) A.runH (by kernel_rfl) (by kernel_rfl) (by kernel_rfl) (by rfl) (by first | assumption | decide +kernel) (by decide +kernel) ⟨rfl, rfl, rfl, rfl, rfl, by decide +kernel⟩ ?hw ?hc
  case hw => w_witness2
  case hc =>
    refine Y.walk_topE (l := PySem.Challenge.rw_lanescroll_k28_ways_to_what_has_not_come) (k := 11) (x := "_law_script") rfl (by kernel_rfl) ⟨rfl, by decide, by decide⟩ ?F
    intro w mg fa h Y_ G hmg0
    obtain ⟨K, KX, c⟩ := Y_
    have hmg : mg ("law" : PySem.Str) = some (.ref fa) := by
      have e : (HandSHeadRun.topDef (OpenLaw.row PySem.Challenge.rw_lanescroll_k28_ways_to_what_has_not_come).prog 53).name = ("law" : PySem.Str) := by kernel_rfl
      rw [← e]
      exact hmg0
    exact ⟨K, KX, A.all_he KX G hmg c⟩
