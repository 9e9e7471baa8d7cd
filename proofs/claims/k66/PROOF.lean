import PyProof.Rows.All
import Wide.All
import OpenK.AllK
import Wide.FinOn
import HandS.ForMost
import HandS.ForExc
import HandS.Lambda
import HandS.EndTab
import HandS.TryOnly
import HandS.ExcIs
import HandS.IsInst
import HandS.CallSlots
import HandS.Evl
import HandS.Flow
import HandS.TupAny
import KE.DataEq
import HandS.Zip
import HandS.Small
import HandS.Conv
import HandS.WordsDict
import HandS.SetFor
import HandS.SortInts
import HandS.Deep
import HandS.ExcOwn
import HandS.SortRule
import HandS.DictTup
import HandS.EndOwn
import PySem.Challenge.RW_dotmaps_k66_whole_gaps_of_three_lengths
section
set_option Elab.async false
set_option linter.all false
set_option maxRecDepth 100000
set_option maxHeartbeats 4000000
/-! The plain layer, 1: data, what represents it, states of a def's slots. -/
namespace PL
open PySem PySem.Spec PyProof.Rows L2
/-- the tables of code objects that a law's lambdas are made from, the same throughout -/
class TabList where
  T : List (Addr × Str)
variable [TabList]

/-- plain data: what a Python value stands for -/
inductive D where
  | non | bl (b : Bool) | int (i : Int) | str (x : Str) | ty (n : String) | ref (a : Addr) | hnd | scr (ns : List Int)
  | tup (xs : List D) | lst (xs : List D)
  | dK (kvs : List (Key × D)) | dT (kvs : List (List Key × D))
  | obj (C : Addr) (fs : List (Str × D))

/-- a tuple that may be read and is not among av, or stands in the written part -/
def TupAt (K : PySem.W.Frag) (H : Hp) (av : Addr → Prop) (a : Addr) (vs : List V) : Prop :=
  (Rd H a (.tup vs) ∧ ¬ av a) ∨
    ∃ (o : Obj) (its : Array Value) (n : Nat), K.lookup a = some o ∧ o.cls = .type "tuple" ∧ o.data = .seq its n ∧ its.size ≤ sizeLine ∧ Vals vs its.toList
theorem TupAt.sq {K : PySem.W.Frag} {H : Hp} {av : Addr → Prop} {a : Addr} {vs : List V} (h : TupAt K H av a vs) : SqT K H a vs := h.imp (·.1) id

/-- a list that is only read: the script -/
def ScrAt (K : PySem.W.Frag) (H : Hp) (av : Addr → Prop) (a : Addr) (vs : List V) : Prop :=
  (Rd H a (.lst vs) ∧ ¬ av a) ∨
    ∃ (o : Obj) (its : Array Value) (n : Nat), K.lookup a = some o ∧ o.cls = .type "list" ∧ o.dict = none ∧ o.data = .seq its n ∧ its.size ≤ sizeLine ∧ Vals vs its.toList
theorem ScrAt.sq {K : PySem.W.Frag} {H : Hp} {av : Addr → Prop} {a : Addr} {vs : List V} (h : ScrAt K H av a vs) : SqL K H a vs := h.imp (·.1) id
/-- the hand of a law at h, its cells at c: what it holds is left open -/
def HandO (h c : Addr) : HO := .ext fun hp => ∃ (p r m n : Int) (t1 t2 t3 t4 : Tok) (k : Nat), 0 ≤ p ∧ hp.get? h = some { cls := .type "list", data := .seq #[.ref c, .int p t1, .int r t2, .int m t3, .int n t4] k }
mutual
inductive Rp (K : PySem.W.Frag) (H : Hp) (av : Addr → Prop) : D → V → Prop
  | non : Rp K H av .non .non
  | bl (b : Bool) : Rp K H av (.bl b) (.bl b)
  | int (i : Int) : Rp K H av (.int i) (.int i)
  | str (x : Str) : Rp K H av (.str x) (.str x)
  | ty (n : String) : Rp K H av (.ty n) (.ty n)
  | ref (a : Addr) : Rp K H av (.ref a) (.ref a)
  | hnd {a c : Addr} {ns : List Int} : H a = some (HandO a c) → ¬ av a → H c = some (.lst (ns.map V.int)) → ¬ av c → Rp K H av .hnd (.ref a)
  | scr {a : Addr} {ns : List Int} : ScrAt K H av a (ns.map V.int) → Rp K H av (.scr ns) (.ref a)
  | tup {a : Addr} {vs : List V} {xs : List D} : TupAt K H av a vs → Rps K H av xs vs → Rp K H av (.tup xs) (.ref a)
  | lst {a : Addr} {vs : List V} {xs : List D} : H a = some (.lst vs) → ¬ av a → Rps K H av xs vs → Rp K H av (.lst xs) (.ref a)
  | dK {a : Addr} {kvs : List (Key × V)} {xs : List (Key × D)} : H a = some (.dK kvs) → ¬ av a → kvs.map Prod.fst = xs.map Prod.fst → Rps K H av (xs.map Prod.snd) (kvs.map Prod.snd) → Rp K H av (.dK xs) (.ref a)
  | dT {a : Addr} {kvs : List (List Key × V)} {xs : List (List Key × D)} : H a = some (.dT kvs) → ¬ av a → kvs.map Prod.fst = xs.map Prod.fst → Rps K H av (xs.map Prod.snd) (kvs.map Prod.snd) → Rp K H av (.dT xs) (.ref a)
  | obj {a C dx : Addr} {fs : List (Str × V)} {xs : List (Str × D)} : H a = some (.ins C dx fs) → ¬ av a → fs.map Prod.fst = xs.map Prod.fst → Rps K H av (xs.map Prod.snd) (fs.map Prod.snd) → Rp K H av (.obj C xs) (.ref a)
inductive Rps (K : PySem.W.Frag) (H : Hp) (av : Addr → Prop) : List D → List V → Prop
  | nil : Rps K H av [] []
  | cons {x : D} {v : V} {xs : List D} {vs : List V} : Rp K H av x v → Rps K H av xs vs → Rps K H av (x :: xs) (v :: vs)
end

/-- something is tracked at a that is no table -/
def NT (H : Hp) (a : Addr) : Prop := ∃ o, H a = some o ∧ ∀ ps, o ≠ .tbl ps
theorem NT.of {H : Hp} {a : Addr} {o : HO} (h : H a = some o) (n : ∀ ps, o ≠ .tbl ps := by intro _ z; cases z) : NT H a := ⟨o, h, n⟩
theorem nnt {H : Hp} {a : Addr} (h : H a = none) : ¬ NT H a := fun ⟨o, e, _⟩ => by rw [h] at e; cases e
/-- all that is tracked stays, but for ch and the tables; these stay tracked -/
structure Ext (ch : Addr → Prop) (H H' : Hp) : Prop where
  keep : ∀ a o, H a = some o → ¬ ch a → (∀ ps, o ≠ .tbl ps) → H' a = some o
  there : ∀ a, NT H a → NT H' a
theorem Ext.refl {ch : Addr → Prop} {H : Hp} : Ext ch H H := ⟨fun _ _ h _ _ => h, fun _ h => h⟩
theorem Ext.trans {ch : Addr → Prop} {H H1 H2 : Hp} (a : Ext ch H H1) (b : Ext ch H1 H2) : Ext ch H H2 := ⟨fun x o h n t => b.keep x o (a.keep x o h n t) n t, fun x h => b.there x (a.there x h)⟩
theorem some_ne {α : Type} {o : Option α} {x : α} (h : o = some x) : o ≠ none := fun z => by rw [h] at z; cases z
theorem Ext.of {ch : Addr → Prop} {H H' : Hp} (e : Evl.Ex H H') : Ext ch H H' := ⟨fun a o h _ _ => e a o h, fun a ⟨o, h, n⟩ => ⟨o, e a o h, n⟩⟩
theorem Ext.new {ch : Addr → Prop} {H : Hp} {p : Addr} {o : HO} (h : H p = none) : Ext ch H (upd H p o) := .of (Evl.Ex.new h)
theorem Ext.free {ch : Addr → Prop} {H H' : Hp} (e : Ext ch H H') {a : Addr} (h : ¬ NT H' a) : ¬ NT H a := fun z => h (e.there a z)

section
variable {K : PySem.W.Frag} {H H' : Hp} {av av' ch : Addr → Prop}
theorem Rd.ext {a : Addr} {u : HO} (e : Ext ch H H') (h : Rd H a u) (n : ¬ ch a) (nt : ∀ ps, u ≠ .tbl ps) : Rd H' a u := by
  rcases h with h | ⟨o, h⟩
  · exact .inl (e.keep a _ h n nt)
  · exact .inr ⟨o, e.keep a _ h n fun _ z => by cases z⟩
theorem TupAt.mono {a : Addr} {vs : List V} (h : TupAt K H av a vs) (e : Ext ch H H') (hc : ∀ a, ch a → av a) (ha : ∀ a, NT H a → av' a → av a) : TupAt K H' av' a vs := by
  rcases h with ⟨h, n⟩ | h
  · have t : NT H a := by
      rcases h with h | ⟨o, h⟩
      · exact .of h
      · exact .of h
    exact .inl ⟨Rd.ext e h (fun z => n (hc _ z)) (fun _ z => by cases z), fun z => n (ha _ t z)⟩
  · exact .inr h
theorem ScrAt.mono {a : Addr} {vs : List V} (h : ScrAt K H av a vs) (e : Ext ch H H') (hc : ∀ a, ch a → av a) (ha : ∀ a, NT H a → av' a → av a) : ScrAt K H' av' a vs := by
  rcases h with ⟨h, n⟩ | h
  · have t : NT H a := by
      rcases h with h | ⟨o, h⟩
      · exact .of h
      · exact .of h
    exact .inl ⟨Rd.ext e h (fun z => n (hc _ z)) (fun _ z => by cases z), fun z => n (ha _ t z)⟩
  · exact .inr h
mutual
theorem Rp.mono (e : Ext ch H H') (hc : ∀ a, ch a → av a) (ha : ∀ a, NT H a → av' a → av a) : ∀ {x : D} {v : V}, Rp K H av x v → Rp K H' av' x v
  | _, _, .non => .non
  | _, _, .bl b => .bl b
  | _, _, .int i => .int i
  | _, _, .str x => .str x
  | _, _, .ty n => .ty n
  | _, _, .ref a => .ref a
  | _, _, .hnd h n h2 n2 => .hnd (e.keep _ _ h (fun z => n (hc _ z)) fun _ z => by cases z) (fun z => n (ha _ (NT.of h) z)) (e.keep _ _ h2 (fun z => n2 (hc _ z)) fun _ z => by cases z) (fun z => n2 (ha _ (NT.of h2) z))
  | _, _, .scr h => .scr (h.mono e hc ha)
  | _, _, .tup h r => .tup (h.mono e hc ha) (Rps.mono e hc ha r)
  | _, _, .lst h n r => .lst (e.keep _ _ h (fun z => n (hc _ z)) fun _ z => by cases z) (fun z => n (ha _ (NT.of h) z)) (Rps.mono e hc ha r)
  | _, _, .dK h n k r => .dK (e.keep _ _ h (fun z => n (hc _ z)) fun _ z => by cases z) (fun z => n (ha _ (NT.of h) z)) k (Rps.mono e hc ha r)
  | _, _, .dT h n k r => .dT (e.keep _ _ h (fun z => n (hc _ z)) fun _ z => by cases z) (fun z => n (ha _ (NT.of h) z)) k (Rps.mono e hc ha r)
  | _, _, .obj h n k r => .obj (e.keep _ _ h (fun z => n (hc _ z)) fun _ z => by cases z) (fun z => n (ha _ (NT.of h) z)) k (Rps.mono e hc ha r)
theorem Rps.mono (e : Ext ch H H') (hc : ∀ a, ch a → av a) (ha : ∀ a, NT H a → av' a → av a) : ∀ {xs : List D} {vs : List V}, Rps K H av xs vs → Rps K H' av' xs vs
  | _, _, .nil => .nil
  | _, _, .cons h r => .cons (Rp.mono e hc ha h) (Rps.mono e hc ha r)
end
theorem Rp.less {x : D} {v : V} (h : Rp K H av x v) (ha : ∀ a, NT H a → av' a → av a) : Rp K H av' x v := h.mono (ch := fun _ => False) Ext.refl (fun _ z => z.elim) ha
theorem Rps.less {xs : List D} {vs : List V} (h : Rps K H av xs vs) (ha : ∀ a, NT H a → av' a → av a) : Rps K H av' xs vs := h.mono (ch := fun _ => False) Ext.refl (fun _ z => z.elim) ha
theorem Rps.length : ∀ {xs : List D} {vs : List V}, Rps K H av xs vs → xs.length = vs.length
  | _, _, .nil => rfl
  | _, _, .cons _ r => congrArg (· + 1) r.length
theorem Rps.get : ∀ {xs : List D} {vs : List V} {i : Nat} {x : D}, Rps K H av xs vs → xs[i]? = some x → ∃ v, vs[i]? = some v ∧ Rp K H av x v
  | _, _, _, _, .nil, e => by simp at e
  | _, _, 0, _, .cons h _, e => by simp at e; subst e; exact ⟨_, rfl, h⟩
  | _, _, i + 1, x, .cons _ r, e => by
    obtain ⟨v, h1, h2⟩ := Rps.get (i := i) (x := x) r (by simpa using e)
    exact ⟨v, by simpa using h1, h2⟩
theorem Rps.get' : ∀ {xs : List D} {vs : List V} {i : Nat} {v : V}, Rps K H av xs vs → vs[i]? = some v → ∃ x, xs[i]? = some x ∧ Rp K H av x v
  | _, _, _, _, .nil, e => by simp at e
  | _, _, 0, _, .cons h _, e => by simp at e; subst e; exact ⟨_, rfl, h⟩
  | _, _, i + 1, x, .cons _ r, e => by
    obtain ⟨v, h1, h2⟩ := Rps.get' (i := i) (v := x) r (by simpa using e)
    exact ⟨v, by simpa using h1, h2⟩
theorem Rps.app : ∀ {xs ys : List D} {vs ws : List V}, Rps K H av xs vs → Rps K H av ys ws → Rps K H av (xs ++ ys) (vs ++ ws)
  | _, _, _, _, .nil, s => s
  | _, _, _, _, .cons h r, s => .cons h (Rps.app r s)
theorem Rps.take : ∀ {xs : List D} {vs : List V} (n : Nat), Rps K H av xs vs → Rps K H av (xs.take n) (vs.take n)
  | _, _, 0, _ => .nil
  | _, _, _ + 1, .nil => .nil
  | _, _, n + 1, .cons h r => .cons h (Rps.take n r)
theorem Rps.drop : ∀ {xs : List D} {vs : List V} (n : Nat), Rps K H av xs vs → Rps K H av (xs.drop n) (vs.drop n)
  | _, _, 0, r => r
  | _, _, _ + 1, .nil => .nil
  | _, _, n + 1, .cons _ r => Rps.drop n r
theorem Rps.set {x : D} {v : V} (h : Rp K H av x v) : ∀ {xs : List D} {vs : List V} (i : Nat), Rps K H av xs vs → Rps K H av (xs.set i x) (vs.set i v)
  | _, _, _, .nil => .nil
  | _, _, 0, .cons _ r => .cons h r
  | _, _, i + 1, .cons q r => .cons q (Rps.set h i r)
theorem Rps.ints : ∀ {xs : List Int} {vs : List V}, Rps K H av (xs.map D.int) vs → vs = xs.map V.int
  | [], _, h => by cases h; rfl
  | i :: xs, _, h => by
    cases h with
    | cons h r => cases h; rw [Rps.ints r]; rfl
theorem Rps.of_ints : ∀ xs : List Int, Rps K H av (xs.map D.int) (xs.map V.int)
  | [] => .nil
  | i :: xs => .cons (.int i) (Rps.of_ints xs)
theorem Rps.map {α : Type} {f : α → D} {g : α → V} : ∀ {l : List α}, (∀ z ∈ l, Rp K H av (f z) (g z)) → Rps K H av (l.map f) (l.map g)
  | [], _ => .nil
  | z :: l, h => .cons (h z (by simp)) (Rps.map fun y hy => h y (List.mem_cons_of_mem _ hy))
end

/-! ### the hand, the ghost state -/
/-- the hand of a law stands at h, its cells at c -/
def HandOk (H : Hp) (h c : Addr) : Prop := ∃ (ns : List Int) (p r m n : Int), H h = some (.lst [.ref c, .int p, .int r, .int m, .int n]) ∧ H c = some (.lst (ns.map V.int)) ∧ 0 ≤ p
structure G where
  hand : Option (Addr × Addr)
  T : List (Addr × Str)
  av : Addr → Prop
  hav : ∀ h c, hand = some (h, c) → av h ∧ av c
def G.ch (g : G) : Addr → Prop := fun a => ∃ c, g.hand = some (a, c)
def G.ok (g : G) (H : Hp) : Prop := (∀ h c, g.hand = some (h, c) → HandOk H h c) ∧ LamX.Tabs TabList.T H
theorem G.chav (g : G) : ∀ a, g.ch a → g.av a := fun a ⟨c, e⟩ => (g.hav a c e).1
theorem HandOk.ex {H H' : Hp} {h c : Addr} (x : HandOk H h c) (e : Evl.Ex H H') : HandOk H' h c := by
  obtain ⟨ns, p, r, m, n, h1, h2, h3⟩ := x
  exact ⟨ns, p, r, m, n, e _ _ h1, e _ _ h2, h3⟩
theorem G.ok.ex {g : G} {H H' : Hp} (x : g.ok H) (e : Evl.Ex H H') : g.ok H' := ⟨fun h c q => (x.1 h c q).ex e, x.2.ext e⟩
/-- an object that is no hand, no table, no code is written -/
def Wr : HO → Prop
  | .lst _ => True
  | .dK _ => True
  | .dT _ => True
  | _ => False
theorem ex_upd {H : Hp} {l : Addr} {o o' : HO} (h : H l = some o) (P : HO → Prop) (np : ¬ P o) : ∀ b u, H b = some u → P u → upd H l o' b = some u := fun b u e p => by
  by_cases hb : b = l
  · subst hb
    rw [h] at e
    cases e
    exact absurd p np
  · rw [upd_ne hb]; exact e
theorem tabs_upd {T : List (Addr × Str)} {H : Hp} {l : Addr} {o o' : HO} (t : LamX.Tabs T H) (h : H l = some o) (w : Wr o) : LamX.Tabs T (upd H l o') := fun p hp => by
  obtain ⟨ps, h1, h2, h3⟩ := t p hp
  have n1 : p.1 ≠ l := fun z => by
    rw [z, h] at h1
    cases h1
    exact w
  refine ⟨ps, by rw [upd_ne n1]; exact h1, h2, fun pos cv hc => ?_⟩
  obtain ⟨c, e1, e2⟩ := h3 pos cv hc
  have n2 : c ≠ l := fun z => by
    rw [z, h] at e2
    have e3 := Option.some.inj e2
    subst e3
    exact w
  exact ⟨c, e1, by rw [upd_ne n2]; exact e2⟩
theorem G.ok.upd {g : G} {H : Hp} {l : Addr} {o o' : HO} (x : g.ok H) (h : H l = some o) (w : Wr o) (n : ¬ g.av l) : g.ok (upd H l o') := by
  refine ⟨fun a c q => ?_, tabs_upd x.2 h w⟩
  obtain ⟨ns, p, r, m, k, h1, h2, h3⟩ := x.1 a c q
  obtain ⟨a1, a2⟩ := g.hav a c q
  have n1 : a ≠ l := fun z => n (by rw [← z]; exact a1)
  have n2 : c ≠ l := fun z => n (by rw [← z]; exact a2)
  exact ⟨ns, p, r, m, k, (upd_ne n1).trans h1, (upd_ne n2).trans h2, h3⟩

/-! ### slots -/
inductive S where
  /-- data, never changed from here on -/
  | d (x : D)
  /-- a list or dict of this def's own, which it may change -/
  | own (x : D)
abbrev PSt := List (Option S)
def avS (g : G) (ρ : PSt) (σ : L2.St) : Addr → Prop := fun a => g.av a ∨ ∃ (i : Nat) (x : D), ρ[i]? = some (some (S.own x)) ∧ σ[i]? = some (some (V.ref a))
inductive OwnAt (K : PySem.W.Frag) (H : Hp) (av : Addr → Prop) : D → Addr → Prop
  | lst {a : Addr} {vs : List V} {xs : List D} : H a = some (.lst vs) → Rps K H av xs vs → OwnAt K H av (.lst xs) a
  | dK {a : Addr} {kvs : List (Key × V)} {xs : List (Key × D)} : H a = some (.dK kvs) → kvs.map Prod.fst = xs.map Prod.fst → Rps K H av (xs.map Prod.snd) (kvs.map Prod.snd) → OwnAt K H av (.dK xs) a
  | dT {a : Addr} {kvs : List (List Key × V)} {xs : List (List Key × D)} : H a = some (.dT kvs) → kvs.map Prod.fst = xs.map Prod.fst → Rps K H av (xs.map Prod.snd) (kvs.map Prod.snd) → OwnAt K H av (.dT xs) a
theorem OwnAt.there {K : PySem.W.Frag} {H : Hp} {av : Addr → Prop} {x : D} {a : Addr} (h : OwnAt K H av x a) : ∃ o, H a = some o ∧ Wr o := by
  cases h with
  | lst h _ => exact ⟨_, h, trivial⟩
  | dK h _ _ => exact ⟨_, h, trivial⟩
  | dT h _ _ => exact ⟨_, h, trivial⟩
theorem OwnAt.nt {K : PySem.W.Frag} {H : Hp} {av : Addr → Prop} {x : D} {a : Addr} (h : OwnAt K H av x a) : NT H a := by
  obtain ⟨o, e, w⟩ := h.there
  exact .of e fun _ z => by rw [z] at w; exact w
theorem nt_upd {H : Hp} {a : Addr} {o' : HO} (w : NT (upd H a o') a) : ∀ b, NT H b → NT (upd H a o') b := fun b ⟨u, h, n⟩ => by
  by_cases e : b = a
  · rw [e]; exact w
  · exact ⟨u, by rw [upd_ne e]; exact h, n⟩
theorem OwnAt.mono {K : PySem.W.Frag} {H H' : Hp} {av av' ch : Addr → Prop} {x : D} {a : Addr} (h : OwnAt K H av x a) (e : Ext ch H H') (hc : ∀ a, ch a → av a) (ha : ∀ a, NT H a → av' a → av a) (n : ¬ ch a) : OwnAt K H' av' x a := by
  cases h with
  | lst h r => exact .lst (e.keep _ _ h n fun _ z => by cases z) (r.mono e hc ha)
  | dK h k r => exact .dK (e.keep _ _ h n fun _ z => by cases z) k (r.mono e hc ha)
  | dT h k r => exact .dT (e.keep _ _ h n fun _ z => by cases z) k (r.mono e hc ha)
/-- an owned thing as data, its address no longer its def's own -/
theorem OwnAt.rp {K : PySem.W.Frag} {H : Hp} {av av' : Addr → Prop} {x : D} {a : Addr} (h : OwnAt K H av x a) (ha : ∀ a, NT H a → av' a → av a) (n : ¬ av' a) : Rp K H av' x (.ref a) := by
  cases h with
  | lst h r => exact .lst h n (r.less ha)
  | dK h k r => exact .dK h n k (r.less ha)
  | dT h k r => exact .dT h n k (r.less ha)
/-- from where changes are told, and what may be changed since -/
structure Bs where
  H : Hp
  ch : Addr → Prop
structure Rel (K : PySem.W.Frag) (g : G) (H0 : Bs) (ρ : PSt) (σ : L2.St) (H : Hp) : Prop where
  ok : g.ok H
  ext : Ext H0.ch H0.H H
  gch : ∀ a, g.ch a → H0.ch a
  len : ρ.length = σ.length
  avt : ∀ a, g.av a → NT H a
  dat : ∀ (i : Nat) (x : D), ρ[i]? = some (some (S.d x)) → ∃ v, σ[i]? = some (some v) ∧ Rp K H (avS g ρ σ) x v
  own : ∀ (i : Nat) (x : D), ρ[i]? = some (some (S.own x)) → ∃ a, σ[i]? = some (some (V.ref a)) ∧ ¬ g.av a ∧ (¬ NT H0.H a ∨ H0.ch a) ∧ OwnAt K H (avS g ρ σ) x a
  dis : ∀ (i j : Nat) (x y : D) (a : Addr), ρ[i]? = some (some (S.own x)) → ρ[j]? = some (some (S.own y)) → σ[i]? = some (some (V.ref a)) → σ[j]? = some (some (V.ref a)) → i = j
section
variable {K : PySem.W.Frag} {g : G} {H0 : Bs} {H H' : Hp} {ρ : PSt} {σ : L2.St}
theorem avS.base {a : Addr} (h : g.av a) : avS g ρ σ a := .inl h
theorem Rel.chS : ∀ a, g.ch a → avS g ρ σ a := fun a h => .inl (g.chav a h)
/-- what a step that changes no own thing leaves -/
theorem Rel.step (R : Rel K g H0 ρ σ H) (e : Ext g.ch H H') (ok : g.ok H') : Rel K g H0 ρ σ H' where
  ok := ok
  ext := R.ext.trans ⟨fun a o h n t => e.keep a o h (fun z => n (R.gch a z)) t, e.there⟩
  gch := R.gch
  len := R.len
  avt := fun a h => e.there a (R.avt a h)
  dat := fun i x h => by
    obtain ⟨v, h1, h2⟩ := R.dat i x h
    exact ⟨v, h1, h2.mono e Rel.chS fun _ _ z => z⟩
  own := fun i x h => by
    obtain ⟨a, h1, h2, h3, h4⟩ := R.own i x h
    exact ⟨a, h1, h2, h3, h4.mono e Rel.chS (fun _ _ z => z) fun z => h2 (g.chav a z)⟩
  dis := R.dis
theorem Rel.ex (R : Rel K g H0 ρ σ H) (e : Evl.Ex H H') : Rel K g H0 ρ σ H' := R.step (.of e) (R.ok.ex e)
theorem Rel.avS_there (R : Rel K g H0 ρ σ H) {a : Addr} (h : avS g ρ σ a) : NT H a := by
  rcases h with h | ⟨i, x, h1, h2⟩
  · exact R.avt a h
  · obtain ⟨b, k1, _, _, k4⟩ := R.own i x h1
    rw [h2] at k1
    cases k1
    obtain ⟨o, e, w⟩ := k4.there
    exact .of e fun _ z => by rw [z] at w; exact w
theorem Rel.fresh (R : Rel K g H0 ρ σ H) {a : Addr} (h : ¬ NT H a) : ¬ avS g ρ σ a := fun z => h (R.avS_there z)
theorem Rel.new (R : Rel K g H0 ρ σ H) {p : Addr} {o : HO} (h : H p = none) : Rel K g H0 ρ σ (upd H p o) := R.ex (Evl.Ex.new h)
end
end PL
end
section
set_option Elab.async false
set_option linter.all false
set_option maxRecDepth 100000
set_option maxHeartbeats 4000000
/-! The plain layer, 2: judgements of expressions. -/
namespace PL
open PySem PySem.Spec PyProof.Rows L2
variable [TabList]

/-- an error: its class, its fields -/
structure Err where
  C : Addr
  fs : List (Str × D)
def ErrIs (K : PySem.W.Frag) (H : Hp) (av : Addr → Prop) (er : Err) (cls : Value) (d : Option Addr) : Prop :=
  cls = .ref er.C ∧ ((er.fs = [] ∧ d = none) ∨ ∃ dx vs, er.fs ≠ [] ∧ d = some dx ∧ H dx = some (.xd vs) ∧ vs.map Prod.fst = er.fs.map Prod.fst ∧ Rps K H av (er.fs.map Prod.snd) (vs.map Prod.snd))
theorem ErrIs.less {K : PySem.W.Frag} {H : Hp} {av av' : Addr → Prop} {er : Err} {cls : Value} {d : Option Addr} (h : ErrIs K H av er cls d) (ha : ∀ a, NT H a → av' a → av a) : ErrIs K H av' er cls d := by
  obtain ⟨h1, h2 | ⟨dx, vs, h0, h2, h3, h4, h5⟩⟩ := h
  · exact ⟨h1, .inl h2⟩
  · exact ⟨h1, .inr ⟨dx, vs, h0, h2, h3, h4, h5.less ha⟩⟩

abbrev WE := PSt → (D → Prop) → (Err → Prop) → Prop
abbrev WT := PSt → (Bool → Prop) → (Err → Prop) → Prop
abbrev WA := PSt → (List D → Prop) → (Err → Prop) → Prop

/-- m: data that may be kept; not m: it may be an own thing of the def, to be read at once -/
def RpM (m : Bool) (K : PySem.W.Frag) (H : Hp) (g : G) (ρ : PSt) (σ : L2.St) (x : D) (v : V) : Prop :=
  Rp K H (avS g ρ σ) x v ∨ (m = false ∧ ∃ i : Nat, ρ[i]? = some (some (S.own x)) ∧ σ[i]? = some (some v))
inductive RpsM (m : Bool) (K : PySem.W.Frag) (H : Hp) (g : G) (ρ : PSt) (σ : L2.St) : List D → List V → Prop
  | nil : RpsM m K H g ρ σ [] []
  | cons {x : D} {v : V} {xs : List D} {vs : List V} : RpM m K H g ρ σ x v → RpsM m K H g ρ σ xs vs → RpsM m K H g ρ σ (x :: xs) (v :: vs)
section
variable {K : PySem.W.Frag} {g : G} {H0 : Bs} {H H' : Hp} {ρ : PSt} {σ : L2.St} {m : Bool} {x : D} {v : V}
theorem RpM.mono (h : RpM m K H g ρ σ x v) (e : Ext g.ch H H') : RpM m K H' g ρ σ x v := h.imp (fun h => h.mono e Rel.chS fun _ _ z => z) id
theorem RpsM.mono (e : Ext g.ch H H') : ∀ {xs : List D} {vs : List V}, RpsM m K H g ρ σ xs vs → RpsM m K H' g ρ σ xs vs
  | _, _, .nil => .nil
  | _, _, .cons h r => .cons (h.mono e) (RpsM.mono e r)
theorem RpM.full (h : RpM true K H g ρ σ x v) : Rp K H (avS g ρ σ) x v := h.elim id fun ⟨z, _⟩ => nomatch z
theorem RpsM.full : ∀ {xs : List D} {vs : List V}, RpsM true K H g ρ σ xs vs → Rps K H (avS g ρ σ) xs vs
  | _, _, .nil => .nil
  | _, _, .cons h r => .cons h.full (RpsM.full r)
theorem Rp.keep (h : Rp K H (avS g ρ σ) x v) : RpM m K H g ρ σ x v := .inl h
theorem RpM.t (h : RpM true K H g ρ σ x v) : RpM m K H g ρ σ x v := .inl h.full
/-- what an own thing is -/
theorem RpM.cases (R : Rel K g H0 ρ σ H) (h : RpM m K H g ρ σ x v) : Rp K H (avS g ρ σ) x v ∨ ∃ a, v = .ref a ∧ OwnAt K H (avS g ρ σ) x a := by
  rcases h with h | ⟨_, i, h1, h2⟩
  · exact .inl h
  · obtain ⟨a, k1, _, _, k4⟩ := R.own i x h1
    rw [h2] at k1
    cases k1
    exact .inr ⟨a, rfl, k4⟩
theorem RpM.int {i : Int} (R : Rel K g H0 ρ σ H) (h : RpM m K H g ρ σ (.int i) v) : v = .int i := by
  rcases h.cases R with h | ⟨a, _, h⟩
  · cases h; rfl
  · cases h
theorem RpM.bl {b : Bool} (R : Rel K g H0 ρ σ H) (h : RpM m K H g ρ σ (.bl b) v) : v = .bl b := by
  rcases h.cases R with h | ⟨a, _, h⟩
  · cases h; rfl
  · cases h
theorem RpM.str {s : Str} (R : Rel K g H0 ρ σ H) (h : RpM m K H g ρ σ (.str s) v) : v = .str s := by
  rcases h.cases R with h | ⟨a, _, h⟩
  · cases h; rfl
  · cases h
theorem RpM.non (R : Rel K g H0 ρ σ H) (h : RpM m K H g ρ σ .non v) : v = .non := by
  rcases h.cases R with h | ⟨a, _, h⟩
  · cases h; rfl
  · cases h
theorem RpM.ty {n : String} (R : Rel K g H0 ρ σ H) (h : RpM m K H g ρ σ (.ty n) v) : v = .ty n := by
  rcases h.cases R with h | ⟨a, _, h⟩
  · cases h; rfl
  · cases h
theorem RpM.ref {a : Addr} (R : Rel K g H0 ρ σ H) (h : RpM m K H g ρ σ (.ref a) v) : v = .ref a := by
  rcases h.cases R with h | ⟨b, _, h⟩
  · cases h; rfl
  · cases h
theorem RpM.lst {xs : List D} (R : Rel K g H0 ρ σ H) (h : RpM m K H g ρ σ (.lst xs) v) : ∃ a vs, v = .ref a ∧ H a = some (.lst vs) ∧ Rps K H (avS g ρ σ) xs vs := by
  rcases h.cases R with h | ⟨a, e, h⟩
  · cases h with
    | lst h1 n r => exact ⟨_, _, rfl, h1, r⟩
  · cases h with
    | lst h1 r => exact ⟨_, _, e, h1, r⟩
theorem RpM.tup {xs : List D} (R : Rel K g H0 ρ σ H) (h : RpM m K H g ρ σ (.tup xs) v) : ∃ a vs, v = .ref a ∧ SqT K H a vs ∧ Rps K H (avS g ρ σ) xs vs := by
  rcases h.cases R with h | ⟨a, e, h⟩
  · cases h with
    | tup h1 r => exact ⟨_, _, rfl, h1.sq, r⟩
  · cases h
theorem RpM.dK {xs : List (Key × D)} (R : Rel K g H0 ρ σ H) (h : RpM m K H g ρ σ (.dK xs) v) : ∃ a kvs, v = .ref a ∧ H a = some (.dK kvs) ∧ kvs.map Prod.fst = xs.map Prod.fst ∧ Rps K H (avS g ρ σ) (xs.map Prod.snd) (kvs.map Prod.snd) := by
  rcases h.cases R with h | ⟨a, e, h⟩
  · cases h with
    | dK h1 n k r => exact ⟨_, _, rfl, h1, k, r⟩
  · cases h with
    | dK h1 k r => exact ⟨_, _, e, h1, k, r⟩
theorem RpM.dT {xs : List (List Key × D)} (R : Rel K g H0 ρ σ H) (h : RpM m K H g ρ σ (.dT xs) v) : ∃ a kvs, v = .ref a ∧ H a = some (.dT kvs) ∧ kvs.map Prod.fst = xs.map Prod.fst ∧ Rps K H (avS g ρ σ) (xs.map Prod.snd) (kvs.map Prod.snd) := by
  rcases h.cases R with h | ⟨a, e, h⟩
  · cases h with
    | dT h1 n k r => exact ⟨_, _, rfl, h1, k, r⟩
  · cases h with
    | dT h1 k r => exact ⟨_, _, e, h1, k, r⟩
theorem RpM.obj {C : Addr} {xs : List (Str × D)} (R : Rel K g H0 ρ σ H) (h : RpM m K H g ρ σ (.obj C xs) v) : ∃ a dx fs, v = .ref a ∧ H a = some (.ins C dx fs) ∧ fs.map Prod.fst = xs.map Prod.fst ∧ Rps K H (avS g ρ σ) (xs.map Prod.snd) (fs.map Prod.snd) := by
  rcases h.cases R with h | ⟨a, e, h⟩
  · cases h with
    | obj h1 n k r => exact ⟨_, _, _, rfl, h1, k, r⟩
  · cases h
end

/-! ### readings -/
/-- what a new thing at a may not lead to -/
def avP (g : G) (ρ : PSt) (σ : L2.St) (a : Addr) : Addr → Prop := fun b => avS g ρ σ b ∨ b = a
theorem avP_new {g : G} {ρ : PSt} {σ : L2.St} {H : Hp} {p : Addr} (hp : ¬ NT H p) : ∀ b, NT H b → avP g ρ σ p b → avS g ρ σ b := fun b hb z => z.elim id fun e => absurd (by rw [← e]; exact hb) hp
/-- what is wished of errors, from the state at H on -/
def ErrK (K : PySem.W.Frag) (g : G) (H0 : Bs) (ρ : PSt) (σ : L2.St) (H : Hp) (W : WX) (E0 : Err → Prop) : Prop :=
  ∀ er cls d H', E0 er → Ext g.ch H H' → Rel K g H0 ρ σ H' → ErrIs K H' (avS g ρ σ) er cls d → W cls d σ H'
def up (K : PySem.W.Frag) (w : WE) (W : WX) (m : Bool) : TE := fun σ H Q => ∃ (g : G) (H0 : Bs) (ρ : PSt) (Q0 : D → Prop) (E0 : Err → Prop), Rel K g H0 ρ σ H ∧ w ρ Q0 E0 ∧
  (∀ x v H', Q0 x → Ext g.ch H H' → Rel K g H0 ρ σ H' → RpM m K H' g ρ σ x v → Q v H') ∧ ErrK K g H0 ρ σ H W E0
/-- a new list, a new dict -/
def upF (K : PySem.W.Frag) (w : WE) (W : WX) : TE := fun σ H Q => ∃ (g : G) (H0 : Bs) (ρ : PSt) (Q0 : D → Prop) (E0 : Err → Prop), Rel K g H0 ρ σ H ∧ w ρ Q0 E0 ∧
  (∀ x a H', Q0 x → Ext g.ch H H' → Rel K g H0 ρ σ H' → ¬ NT H a → OwnAt K H' (avP g ρ σ a) x a → Q (.ref a) H') ∧ ErrK K g H0 ρ σ H W E0
def upT (K : PySem.W.Frag) (w : WT) (W : WX) : TT := fun σ H Q => ∃ (g : G) (H0 : Bs) (ρ : PSt) (Q0 : Bool → Prop) (E0 : Err → Prop), Rel K g H0 ρ σ H ∧ w ρ Q0 E0 ∧
  (∀ b H', Q0 b → Ext g.ch H H' → Rel K g H0 ρ σ H' → Q b H') ∧ ErrK K g H0 ρ σ H W E0
def upA (K : PySem.W.Frag) (w : WA) (W : WX) (m : Bool) : TA := fun σ H Q => ∃ (g : G) (H0 : Bs) (ρ : PSt) (Q0 : List D → Prop) (E0 : Err → Prop), Rel K g H0 ρ σ H ∧ w ρ Q0 E0 ∧
  (∀ xs vs H', Q0 xs → Ext g.ch H H' → Rel K g H0 ρ σ H' → RpsM m K H' g ρ σ xs vs → Q vs H') ∧ ErrK K g H0 ρ σ H W E0
theorem ErrK.later {K : PySem.W.Frag} {g : G} {H0 : Bs} {H H' : Hp} {ρ : PSt} {σ : L2.St} {W : WX} {E0 : Err → Prop} (h : ErrK K g H0 ρ σ H W E0) (e : Ext g.ch H H') : ErrK K g H0 ρ σ H' W E0 := fun er cls d H2 h1 h2 => h er cls d H2 h1 (e.trans h2)

structure DE (X : Cx) (W : WX) (m : Bool) (e : Expr) (w : WE) : Prop where
  pe : PE X e (up X.K w W m)
structure DF (X : Cx) (W : WX) (e : Expr) (w : WE) : Prop where
  pe : PE X e (upF X.K w W)
structure DT (X : Cx) (W : WX) (e : Expr) (w : WT) : Prop where
  pt : PT X e (upT X.K w W)
structure DA (X : Cx) (W : WX) (m : Bool) (es : List Expr) (w : WA) : Prop where
  pa : PA X es (upA X.K w W m)
theorem PE.weak {X : Cx} {e : Expr} {t t' : TE} (h : PE X e t) (k : ∀ σ H Q, t' σ H Q → t σ H Q) : PE X e t' := ⟨fun pins s σ H Q I q => h.run pins s σ H Q I (k σ H Q q)⟩
theorem PT.weak {X : Cx} {e : Expr} {t t' : TT} (h : PT X e t) (k : ∀ σ H Q, t' σ H Q → t σ H Q) : PT X e t' := ⟨fun pins s σ H Q I q => h.run pins s σ H Q I (k σ H Q q)⟩
theorem PA.weak {X : Cx} {e : List Expr} {t t' : TA} (h : PA X e t) (k : ∀ σ H Q, t' σ H Q → t σ H Q) : PA X e t' := ⟨fun pos pins s σ H Q I q => h.run pos pins s σ H Q I (k σ H Q q)⟩
theorem PS.weak {X : Cx} {e : Stmt} {t t' : TS} (h : PS X e t) (k : ∀ D σ H, t' D σ H → t D σ H) : PS X e t' := ⟨fun pins s σ H D I q => h.run pins s σ H D I (k D σ H q)⟩
theorem PSs.weak {X : Cx} {e : List Stmt} {t t' : TS} (h : PSs X e t) (k : ∀ D σ H, t' D σ H → t D σ H) : PSs X e t' := ⟨fun pins s σ H D I q => h.run pins s σ H D I (k D σ H q)⟩

/-! ### leaves -/
def wC (x : D) : WE := fun _ Q _ => Q x
def wV (i : Nat) : WE := fun ρ Q _ => match ρ[i]? with
  | some (some (.d x)) => Q x
  | _ => False
/-- an own thing, read at once -/
def wO (i : Nat) : WE := fun ρ Q _ => match ρ[i]? with
  | some (some (.d x)) => Q x
  | some (some (.own x)) => Q x
  | _ => False
section
variable {X : Cx} {W : WX} {m m' : Bool} {a b c e : Expr} {es : List Expr} {wa wb wc w : WE} {wt wu : WT} {ws : WA} {pos p : Pos}
theorem de_of {t : TE} {x : D} (h : PE X e t) (k : ∀ (σ : L2.St) (H : Hp) (Q : VK), (∀ v, (∀ (H : Hp) (av : Addr → Prop), Rp X.K H av x v) → Q v H) → t σ H Q) : DE X W m e (wC x) :=
  ⟨PE.weak h fun σ H Q ⟨g, H0, ρ, Q0, E0, R, hw, hq, _⟩ => k σ H Q fun v hv => hq x v H hw Ext.refl R (.inl (hv _ _))⟩
theorem de_int {i : Int} {j} : DE X W m (.Constant (.int i) j pos) (wC (.int i)) := de_of pe_int fun _ _ _ k => k _ fun _ _ => .int i
theorem de_bl {i : Bool} {j} : DE X W m (.Constant (.bool i) j pos) (wC (.bl i)) := de_of pe_bl fun _ _ _ k => k _ fun _ _ => .bl i
theorem de_non {j} : DE X W m (.Constant .none j pos) (wC .non) := de_of pe_non fun _ _ _ k => k _ fun _ _ => .non
theorem de_str {x : Str} {j} : DE X W m (.Constant (.str x) j pos) (wC (.str x)) := de_of pe_str fun _ _ _ k => k _ fun _ _ => .str x
theorem de_globI {x : Str} {i : Int} {u : Value} (hm : X.mg x = some u) (r : RelV (.int i) u) (hg : Gl X x := by rfl) (hd : (x == ("__debug__" : Str)) = false := by decide) : DE X W m (.Name x p) (wC (.int i)) := de_of (pe_glob hg hm r hd) fun _ _ _ k => k _ fun _ _ => .int i
theorem de_globS {x : Str} {i : Str} {u : Value} (hm : X.mg x = some u) (r : RelV (.str i) u) (hg : Gl X x := by rfl) (hd : (x == ("__debug__" : Str)) = false := by decide) : DE X W m (.Name x p) (wC (.str i)) := de_of (pe_glob hg hm r hd) fun _ _ _ k => k _ fun _ _ => .str i
theorem de_globR {x : Str} {i : Addr} (hm : X.mg x = some (.ref i)) (hg : Gl X x := by rfl) (hd : (x == ("__debug__" : Str)) = false := by decide) : DE X W m (.Name x p) (wC (.ref i)) := de_of (pe_glob (v := .ref i) hg hm rfl hd) fun _ _ _ k => k _ fun _ _ => .ref i
theorem de_bty {x : Str} {n : String} (hm : X.mg x = none) (hv : bootBuiltins x = some (.type n)) (hg : Gl X x := by rfl) (hn : x ≠ "__name__" := by decide) (hd : (x == ("__debug__" : Str)) = false := by decide) : DE X W m (.Name x p) (wC (.ty n)) := de_of (pe_bltn (v := .ty n) hg hm hv rfl hn hd) fun _ _ _ k => k _ fun _ _ => .ty n
theorem de_var (i : Nat) {x : Str} (hN : X.N[i]? = some x := by rfl) (hv : Vis X.env.scope x := by first | exact Or.inl rfl | exact Or.inr (Or.inl rfl) | exact Or.inr (Or.inr rfl)) (hd : (x == ("__debug__" : Str)) = false := by decide)
    (hcd : (x == ("__classdict__" : Str)) = false := by decide) : DE X W m (.Name x p) (wV i) :=
  ⟨PE.weak (pe_var hN hv hd hcd) fun σ H Q ⟨g, H0, ρ, Q0, E0, R, hw, hq, _⟩ => by
    unfold wV at hw
    split at hw
    · rename_i x e
      obtain ⟨v, h1, h2⟩ := R.dat i x e
      exact ⟨v, h1, hq x v H hw Ext.refl R (.inl h2)⟩
    · exact hw.elim⟩
theorem dt_own (i : Nat) {x : Str} (hN : X.N[i]? = some x := by rfl) (hv : Vis X.env.scope x := by first | exact Or.inl rfl | exact Or.inr (Or.inl rfl) | exact Or.inr (Or.inr rfl)) (hd : (x == ("__debug__" : Str)) = false := by decide)
    (hcd : (x == ("__classdict__" : Str)) = false := by decide) : DE X W false (.Name x p) (wO i) :=
  ⟨PE.weak (pe_var hN hv hd hcd) fun σ H Q ⟨g, H0, ρ, Q0, E0, R, hw, hq, _⟩ => by
    unfold wO at hw
    split at hw
    · rename_i x e
      obtain ⟨v, h1, h2⟩ := R.dat i x e
      exact ⟨v, h1, hq x v H hw Ext.refl R (.inl h2)⟩
    · rename_i x e
      obtain ⟨a, h1, h2, h3, h4⟩ := R.own i x e
      exact ⟨_, h1, hq x _ H hw Ext.refl R (.inr ⟨rfl, i, e, h1⟩)⟩
    · exact hw.elim⟩
theorem DE.t (h : DE X W true e w) : DE X W m e w := ⟨PE.weak h.pe fun σ H Q ⟨g, H0, ρ, Q0, E0, R, hw, hq, he⟩ => ⟨g, H0, ρ, Q0, E0, R, hw, fun x v H' h1 h2 h3 h4 => hq x v H' h1 h2 h3 h4.t, he⟩⟩
theorem DF.d (h : DF X W e w) : DE X W m e w := ⟨PE.weak h.pe fun σ H Q ⟨g, H0, ρ, Q0, E0, R, hw, hq, he⟩ => ⟨g, H0, ρ, Q0, E0, R, hw, fun x a H' h1 h2 h3 h4 h5 => hq x _ H' h1 h2 h3 (.inl (h5.rp (fun _ _ z => .inl z) (R.fresh h4))), he⟩⟩

/-! ### two places, one place, lists of arguments -/
/-- how an operator on values answers one on data -/
def RB (K : PySem.W.Frag) (r : R2) (f : D → D → (D → Prop) → Prop) (m1 m2 m : Bool) : Prop := ∀ (g : G) (H0 : Bs) (ρ : PSt) (σ : L2.St) (H : Hp) (x y : D) (v u : V) (Q0 : D → Prop) (Q : VK),
  Rel K g H0 ρ σ H → f x y Q0 → RpM m1 K H g ρ σ x v → RpM m2 K H g ρ σ y u → (∀ z w H', Q0 z → Evl.Ex H H' → RpM m K H' g ρ σ z w → Q w H') → r v u H Q
/-- .. that makes a new list or dict -/
def RBF (K : PySem.W.Frag) (r : R2) (f : D → D → (D → Prop) → Prop) (m1 m2 : Bool) : Prop := ∀ (g : G) (H0 : Bs) (ρ : PSt) (σ : L2.St) (H : Hp) (x y : D) (v u : V) (Q0 : D → Prop) (Q : VK),
  Rel K g H0 ρ σ H → f x y Q0 → RpM m1 K H g ρ σ x v → RpM m2 K H g ρ σ y u → (∀ z a H', Q0 z → Evl.Ex H H' → ¬ NT H a → OwnAt K H' (avP g ρ σ a) z a → Q (.ref a) H') → r v u H Q
def RU (K : PySem.W.Frag) (r : V → Hp → VK → Prop) (f : D → (D → Prop) → Prop) (m1 m : Bool) : Prop := ∀ (g : G) (H0 : Bs) (ρ : PSt) (σ : L2.St) (H : Hp) (x : D) (v : V) (Q0 : D → Prop) (Q : VK),
  Rel K g H0 ρ σ H → f x Q0 → RpM m1 K H g ρ σ x v → (∀ z w H', Q0 z → Evl.Ex H H' → RpM m K H' g ρ σ z w → Q w H') → r v H Q
def RC (K : PySem.W.Frag) (r : List V → Hp → VK → Prop) (f : List D → (D → Prop) → Prop) (m1 m : Bool) : Prop := ∀ (g : G) (H0 : Bs) (ρ : PSt) (σ : L2.St) (H : Hp) (xs : List D) (vs : List V) (Q0 : D → Prop) (Q : VK),
  Rel K g H0 ρ σ H → f xs Q0 → RpsM m1 K H g ρ σ xs vs → (∀ z w H', Q0 z → Evl.Ex H H' → RpM m K H' g ρ σ z w → Q w H') → r vs H Q
def RCF (K : PySem.W.Frag) (r : List V → Hp → VK → Prop) (f : List D → (D → Prop) → Prop) (m1 : Bool) : Prop := ∀ (g : G) (H0 : Bs) (ρ : PSt) (σ : L2.St) (H : Hp) (xs : List D) (vs : List V) (Q0 : D → Prop) (Q : VK),
  Rel K g H0 ρ σ H → f xs Q0 → RpsM m1 K H g ρ σ xs vs → (∀ z a H', Q0 z → Evl.Ex H H' → ¬ NT H a → OwnAt K H' (avP g ρ σ a) z a → Q (.ref a) H') → r vs H Q
def wB (f : D → D → (D → Prop) → Prop) (wa wb : WE) : WE := fun ρ Q E => wa ρ (fun x => wb ρ (fun y => f x y Q) E) E
def wU (f : D → (D → Prop) → Prop) (wa : WE) : WE := fun ρ Q E => wa ρ (fun x => f x Q) E
def wF (f : List D → (D → Prop) → Prop) (ws : WA) : WE := fun ρ Q E => ws ρ (fun xs => f xs Q) E
def wNil : WA := fun _ Q _ => Q []
def wCons (wa : WE) (ws : WA) : WA := fun ρ Q E => wa ρ (fun x => ws ρ (fun xs => Q (x :: xs)) E) E
theorem da_nil : DA X W m [] wNil := ⟨PA.weak pa_nil fun σ H Q ⟨g, H0, ρ, Q0, E0, R, hw, hq, _⟩ => hq [] [] H hw Ext.refl R .nil⟩
theorem da_cons (ha : DE X W m e wa) (hr : DA X W m es ws) (hs : starEach (e :: es) X.env = (false, eval e X.env) :: starEach es X.env := by rfl) : DA X W m (e :: es) (wCons wa ws) :=
  ⟨PA.weak (pa_cons ha.pe hr.pa hs) fun σ H Q ⟨g, H0, ρ, Q0, E0, R, hw, hq, he⟩ => ⟨g, H0, ρ, _, E0, R, hw, fun x v H1 h1 e1 R1 r1 => ⟨g, H0, ρ, _, E0, R1, h1, fun xs vs H2 h2 e2 R2 r2 => hq _ _ H2 h2 (e1.trans e2) R2 (.cons (r1.mono e2) r2), he.later e1⟩, he⟩⟩
theorem up_two {r : R2} {f : D → D → (D → Prop) → Prop} {m1 m2 : Bool} {K : PySem.W.Frag} (hr : RB K r f m1 m2 m) : ∀ σ H Q, up K (wB f wa wb) W m σ H Q → tOp r (up K wa W m1) (up K wb W m2) σ H Q :=
  fun σ H Q ⟨g, H0, ρ, Q0, E0, R, hw, hq, he⟩ => ⟨g, H0, ρ, _, E0, R, hw, fun x v H1 h1 e1 R1 r1 => ⟨g, H0, ρ, _, E0, R1, h1, fun y u H2 h2 e2 R2 r2 =>
    hr g H0 ρ σ H2 x y v u Q0 Q R2 h2 (r1.mono e2) r2 fun z w H3 h3 e3 r3 => hq z w H3 h3 ((e1.trans e2).trans (.of e3)) (R2.ex e3) r3, he.later e1⟩, he⟩
theorem up_twoF {r : R2} {f : D → D → (D → Prop) → Prop} {m1 m2 : Bool} {K : PySem.W.Frag} (hr : RBF K r f m1 m2) : ∀ σ H Q, upF K (wB f wa wb) W σ H Q → tOp r (up K wa W m1) (up K wb W m2) σ H Q :=
  fun σ H Q ⟨g, H0, ρ, Q0, E0, R, hw, hq, he⟩ => ⟨g, H0, ρ, _, E0, R, hw, fun x v H1 h1 e1 R1 r1 => ⟨g, H0, ρ, _, E0, R1, h1, fun y u H2 h2 e2 R2 r2 =>
    hr g H0 ρ σ H2 x y v u Q0 Q R2 h2 (r1.mono e2) r2 fun z a H3 h3 e3 n3 r3 => hq z a H3 h3 ((e1.trans e2).trans (.of e3)) (R2.ex e3) (e1.free (e2.free n3)) r3, he.later e1⟩, he⟩
theorem de_op {op : Operator} {r : R2} {f : D → D → (D → Prop) → Prop} {m1 m2 : Bool} (ho : OpR X (binaryOp op) r) (hr : RB X.K r f m1 m2 m) (ha : DE X W m1 a wa) (hb : DE X W m2 b wb) : DE X W m (.BinOp a op b pos) (wB f wa wb) := ⟨PE.weak (pe_op ho ha.pe hb.pe) (up_two hr)⟩
theorem df_op {op : Operator} {r : R2} {f : D → D → (D → Prop) → Prop} {m1 m2 : Bool} (ho : OpR X (binaryOp op) r) (hr : RBF X.K r f m1 m2) (ha : DE X W m1 a wa) (hb : DE X W m2 b wb) : DF X W (.BinOp a op b pos) (wB f wa wb) := ⟨PE.weak (pe_op ho ha.pe hb.pe) (up_twoF hr)⟩
theorem de_cmp {op : CmpOp} {r : R2} {f : D → D → (D → Prop) → Prop} {m1 m2 : Bool} (ho : OpR X (compareOp op) r) (hr : RB X.K r f m1 m2 m) (ha : DE X W m1 a wa) (hb : DE X W m2 b wb) (hm : behindInMarks op b = false := by rfl) : DE X W m (.Compare a [op] [b] pos) (wB f wa wb) := ⟨PE.weak (pe_cmpR ho ha.pe hb.pe hm) (up_two hr)⟩
theorem de_ix {r : R2} {f : D → D → (D → Prop) → Prop} {m1 m2 : Bool} (ho : IxR X r) (hr : RB X.K r f m1 m2 m) (ha : DE X W m1 a wa) (hb : DE X W m2 b wb) (hs : PlainIx b := by exact (fun _ _ => rfl)) : DE X W m (.Subscript a b pos) (wB f wa wb) := ⟨PE.weak (pe_ix ho ha.pe hb.pe hs) (up_two hr)⟩
theorem de_un {op : UnaryOp} {r : V → Hp → VK → Prop} {f : D → (D → Prop) → Prop} {m1 : Bool} (ho : UnR X (unaryOp op) r) (hr : RU X.K r f m1 m) (ha : DE X W m1 a wa) : DE X W m (.UnaryOp op a pos) (wU f wa) :=
  ⟨PE.weak (pe_un ho ha.pe) fun σ H Q ⟨g, H0, ρ, Q0, E0, R, hw, hq, he⟩ => ⟨g, H0, ρ, _, E0, R, hw, fun x v H1 h1 e1 R1 r1 =>
    hr g H0 ρ σ H1 x v Q0 Q R1 h1 r1 fun z w H3 h3 e3 r3 => hq z w H3 h3 (e1.trans (.of e3)) (R1.ex e3) r3, he⟩⟩
theorem up_call {r : List V → Hp → VK → Prop} {f : List D → (D → Prop) → Prop} {m1 : Bool} {K : PySem.W.Frag} (hr : RC K r f m1 m) : ∀ σ H Q, up K (wF f ws) W m σ H Q → tCB r (upA K ws W m1) σ H Q :=
  fun σ H Q ⟨g, H0, ρ, Q0, E0, R, hw, hq, he⟩ => ⟨g, H0, ρ, _, E0, R, hw, fun xs vs H1 h1 e1 R1 r1 =>
    hr g H0 ρ σ H1 xs vs Q0 Q R1 h1 r1 fun z w H3 h3 e3 r3 => hq z w H3 h3 (e1.trans (.of e3)) (R1.ex e3) r3, he⟩
theorem up_callF {r : List V → Hp → VK → Prop} {f : List D → (D → Prop) → Prop} {m1 : Bool} {K : PySem.W.Frag} (hr : RCF K r f m1) : ∀ σ H Q, upF K (wF f ws) W σ H Q → tCB r (upA K ws W m1) σ H Q :=
  fun σ H Q ⟨g, H0, ρ, Q0, E0, R, hw, hq, he⟩ => ⟨g, H0, ρ, _, E0, R, hw, fun xs vs H1 h1 e1 R1 r1 =>
    hr g H0 ρ σ H1 xs vs Q0 Q R1 h1 r1 fun z a H3 h3 e3 n3 r3 => hq z a H3 h3 (e1.trans (.of e3)) (R1.ex e3) (e1.free n3) r3, he⟩
theorem de_callB {id : String} {x : Str} {r : List V → Hp → VK → Prop} {f : List D → (D → Prop) → Prop} {m1 : Bool} (hc : CallR X (.builtin id) r) (hr : RC X.K r f m1 m) (hm : X.mg x = none) (hv : bootBuiltins x = some (.builtin id)) (ha : DA X W m1 (e :: es) ws) (hg : Gl X x := by rfl) (hn : x ≠ "__name__" := by decide) (hdb : (x == ("__debug__" : Str)) = false := by decide)
    (he : starEach (e :: es) X.env = (false, eval e X.env) :: starEach es X.env := by rfl) (hpl : (backTo pos (starEach es X.env)).any (·.1) = false := by rfl) : DE X W m (.Call (.Name x p) (e :: es) [] pos) (wF f ws) := ⟨PE.weak (pe_callB hc hg hm hv ha.pa hn hdb he hpl) (up_call hr)⟩
theorem de_callTy {T : String} {x : Str} {r : List V → Hp → VK → Prop} {f : List D → (D → Prop) → Prop} {m1 : Bool} (hc : CallR X (.type T) r) (hr : RC X.K r f m1 m) (hm : X.mg x = none) (hv : bootBuiltins x = some (.type T)) (ha : DA X W m1 (e :: es) ws) (hg : Gl X x := by rfl) (hn : x ≠ "__name__" := by decide) (hdb : (x == ("__debug__" : Str)) = false := by decide)
    (he : starEach (e :: es) X.env = (false, eval e X.env) :: starEach es X.env := by rfl) (hpl : (backTo pos (starEach es X.env)).any (·.1) = false := by rfl) : DE X W m (.Call (.Name x p) (e :: es) [] pos) (wF f ws) := ⟨PE.weak (pe_callTy hc hg hm hv ha.pa hn hdb he hpl) (up_call hr)⟩
theorem df_callB {id : String} {x : Str} {r : List V → Hp → VK → Prop} {f : List D → (D → Prop) → Prop} {m1 : Bool} (hc : CallR X (.builtin id) r) (hr : RCF X.K r f m1) (hm : X.mg x = none) (hv : bootBuiltins x = some (.builtin id)) (ha : DA X W m1 (e :: es) ws) (hg : Gl X x := by rfl) (hn : x ≠ "__name__" := by decide) (hdb : (x == ("__debug__" : Str)) = false := by decide)
    (he : starEach (e :: es) X.env = (false, eval e X.env) :: starEach es X.env := by rfl) (hpl : (backTo pos (starEach es X.env)).any (·.1) = false := by rfl) : DF X W (.Call (.Name x p) (e :: es) [] pos) (wF f ws) := ⟨PE.weak (pe_callB hc hg hm hv ha.pa hn hdb he hpl) (up_callF hr)⟩
theorem df_callTy {T : String} {x : Str} {r : List V → Hp → VK → Prop} {f : List D → (D → Prop) → Prop} {m1 : Bool} (hc : CallR X (.type T) r) (hr : RCF X.K r f m1) (hm : X.mg x = none) (hv : bootBuiltins x = some (.type T)) (ha : DA X W m1 (e :: es) ws) (hg : Gl X x := by rfl) (hn : x ≠ "__name__" := by decide) (hdb : (x == ("__debug__" : Str)) = false := by decide)
    (he : starEach (e :: es) X.env = (false, eval e X.env) :: starEach es X.env := by rfl) (hpl : (backTo pos (starEach es X.env)).any (·.1) = false := by rfl) : DF X W (.Call (.Name x p) (e :: es) [] pos) (wF f ws) := ⟨PE.weak (pe_callTy hc hg hm hv ha.pa hn hdb he hpl) (up_callF hr)⟩

/-! ### displays -/
/-- a list or tuple may be so long: below the model's line -/
def LL : Nat := 1000000
theorem ll_le {n : Nat} (h : n ≤ LL) : n ≤ sizeLine := Nat.le_trans h (by decide)
theorem ll_lt {n : Nat} (h : n ≤ LL) : n < sizeLine := Nat.lt_of_le_of_lt h (by decide)
def wTup (ws : WA) : WE := fun ρ Q E => ws ρ (fun xs => xs.length ≤ LL ∧ Q (.tup xs)) E
def wLst (ws : WA) : WE := fun ρ Q E => ws ρ (fun xs => xs.length ≤ LL ∧ Q (.lst xs)) E
theorem RpsM.length {K : PySem.W.Frag} {H : Hp} {g : G} {ρ : PSt} {σ : L2.St} : ∀ {xs : List D} {vs : List V}, RpsM m K H g ρ σ xs vs → xs.length = vs.length
  | _, _, .nil => rfl
  | _, _, .cons _ r => congrArg (· + 1) r.length
theorem de_tup {k} (h : DA X W true es ws) : DE X W m (.Tuple es k pos) (wTup ws) :=
  ⟨PE.weak (pe_tup h.pa) fun σ H Q ⟨g, H0, ρ, Q0, E0, R, hw, hq, he⟩ => ⟨g, H0, ρ, _, E0, R, hw, fun xs vs H1 ⟨hl, h1⟩ e1 R1 r1 => ⟨by rw [← r1.length]; exact ll_le hl, fun p hp =>
    hq _ _ _ h1 (e1.trans (.new hp)) (R1.new hp) (.inl (.tup (.inl ⟨.inl upd_same, R1.fresh (nnt hp)⟩) (r1.full.mono (Ext.new hp) Rel.chS fun _ _ z => z)))⟩, he⟩⟩
theorem df_lst (h : DA X W true es ws) : DF X W (.List es pos) (wLst ws) :=
  ⟨PE.weak (pe_lst h.pa) fun σ H Q ⟨g, H0, ρ, Q0, E0, R, hw, hq, he⟩ => ⟨g, H0, ρ, _, E0, R, hw, fun xs vs H1 ⟨hl, h1⟩ e1 R1 r1 => ⟨by rw [← r1.length]; exact ll_le hl, fun p hp =>
    hq _ _ _ h1 (e1.trans (.new hp)) (R1.new hp) (e1.free (nnt hp)) (.lst upd_same (r1.full.mono (Ext.new hp) Rel.chS (avP_new (nnt hp))))⟩, he⟩⟩

/-! ### tests and truth values -/
def wTB (wa : WE) : WT := fun ρ Q E => wa ρ (fun x => match x with
  | .bl b => Q b
  | _ => False) E
def wTAnd (wt wu : WT) : WT := fun ρ Q E => wt ρ (fun b => match b with
  | true => wu ρ Q E
  | false => Q false) E
def wTOr (wt wu : WT) : WT := fun ρ Q E => wt ρ (fun b => match b with
  | true => Q true
  | false => wu ρ Q E) E
def wTNot (wt : WT) : WT := fun ρ Q E => wt ρ (fun b => Q (!b)) E
def wIf (wt : WT) (wa wb : WE) : WE := fun ρ Q E => wt ρ (fun b => match b with
  | true => wa ρ Q E
  | false => wb ρ Q E) E
def wAnd (wa wb : WE) : WE := fun ρ Q E => wa ρ (fun x => match x with
  | .bl true => wb ρ Q E
  | .bl false => Q (.bl false)
  | _ => False) E
def wOr (wa wb : WE) : WE := fun ρ Q E => wa ρ (fun x => match x with
  | .bl true => Q (.bl true)
  | .bl false => wb ρ Q E
  | _ => False) E
def wNot (wa : WE) : WE := fun ρ Q E => wa ρ (fun x => match x with
  | .bl b => Q (.bl (!b))
  | _ => False) E
theorem dt_b (h : DE X W m e wa) (he : ∀ whole, isTrue e X.env whole = (do let v ← whole; standAt e.pos; holding [v] (truthy v)) := by intro _; rfl) : DT X W e (wTB wa) :=
  ⟨PT.weak (pt_val h.pe he) fun σ H Q ⟨g, H0, ρ, Q0, E0, R, hw, hq, he⟩ => ⟨g, H0, ρ, _, E0, R, hw, fun x v H1 h1 e1 R1 r1 => by
    split at h1
    · exact ⟨_, r1.bl R1, hq _ H1 h1 e1 R1⟩
    · exact h1.elim, he⟩⟩
structure DW (X : Cx) (W : WX) (e : Expr) (w : WT) : Prop where
  pw : PW X e (upT X.K w W)
theorem PW.weak {X : Cx} {e : Expr} {t t' : TT} (h : PW X e t) (k : ∀ σ H Q, t' σ H Q → t σ H Q) : PW X e t' := ⟨fun wh pins s σ H Q I q => h.run wh pins s σ H Q I (k σ H Q q)⟩
theorem DW.t (h : DW X W e wt) : DT X W e wt := ⟨h.pw.pt⟩
theorem dw_and1 (h : DT X W a wt) : DW X W (.BoolOp .And [a] pos) wt := ⟨pw_and1 h.pt⟩
theorem dw_or1 (h : DT X W a wt) : DW X W (.BoolOp .Or [a] pos) wt := ⟨pw_or1 h.pt⟩
theorem dw_and {rest : List Expr} (ha : DT X W a wt) (hb : DW X W (.BoolOp .And (b :: rest) pos) wu) : DW X W (.BoolOp .And (a :: b :: rest) pos) (wTAnd wt wu) :=
  ⟨PW.weak (pw_and ha.pt hb.pw) fun σ H Q ⟨g, H0, ρ, Q0, E0, R, hw, hq, he⟩ => ⟨g, H0, ρ, _, E0, R, hw, fun k H1 h1 e1 R1 => by
    cases k with
    | true => exact ⟨g, H0, ρ, Q0, E0, R1, h1, fun k H2 h2 e2 R2 => hq k H2 h2 (e1.trans e2) R2, he.later e1⟩
    | false => exact hq _ H1 h1 e1 R1, he⟩⟩
theorem dw_or {rest : List Expr} (ha : DT X W a wt) (hb : DW X W (.BoolOp .Or (b :: rest) pos) wu) : DW X W (.BoolOp .Or (a :: b :: rest) pos) (wTOr wt wu) :=
  ⟨PW.weak (pw_or ha.pt hb.pw) fun σ H Q ⟨g, H0, ρ, Q0, E0, R, hw, hq, he⟩ => ⟨g, H0, ρ, _, E0, R, hw, fun k H1 h1 e1 R1 => by
    cases k with
    | true => exact hq _ H1 h1 e1 R1
    | false => exact ⟨g, H0, ρ, Q0, E0, R1, h1, fun k H2 h2 e2 R2 => hq k H2 h2 (e1.trans e2) R2, he.later e1⟩, he⟩⟩
theorem dt_not (ha : DT X W a wt) : DT X W (.UnaryOp .Not a pos) (wTNot wt) :=
  ⟨PT.weak (pt_not ha.pt) fun σ H Q ⟨g, H0, ρ, Q0, E0, R, hw, hq, he⟩ => ⟨g, H0, ρ, _, E0, R, hw, fun k H1 h1 e1 R1 => hq _ H1 h1 e1 R1, he⟩⟩
theorem de_if (hc : DT X W c wt) (ha : DE X W m a wa) (hb : DE X W m b wb) : DE X W m (.IfExp c a b pos) (wIf wt wa wb) :=
  ⟨PE.weak (pe_ifExp hc.pt ha.pe hb.pe) fun σ H Q ⟨g, H0, ρ, Q0, E0, R, hw, hq, he⟩ => ⟨g, H0, ρ, _, E0, R, hw, fun k H1 h1 e1 R1 => by
    cases k with
    | true => exact ⟨g, H0, ρ, Q0, E0, R1, h1, fun x v H2 h2 e2 R2 r2 => hq x v H2 h2 (e1.trans e2) R2 r2, he.later e1⟩
    | false => exact ⟨g, H0, ρ, Q0, E0, R1, h1, fun x v H2 h2 e2 R2 r2 => hq x v H2 h2 (e1.trans e2) R2 r2, he.later e1⟩, he⟩⟩
theorem de_one {op} (h : DE X W m a wa) : DE X W m (.BoolOp op [a] pos) wa := ⟨pe_one h.pe⟩
theorem de_and {rest : List Expr} (ha : DE X W m' a wa) (hb : DE X W m (.BoolOp .And (b :: rest) pos) wb) : DE X W m (.BoolOp .And (a :: b :: rest) pos) (wAnd wa wb) :=
  ⟨PE.weak (pe_and ha.pe hb.pe) fun σ H Q ⟨g, H0, ρ, Q0, E0, R, hw, hq, he⟩ => ⟨g, H0, ρ, _, E0, R, hw, fun x v H1 h1 e1 R1 r1 => by
    split at h1
    · exact ⟨true, r1.bl R1, ⟨g, H0, ρ, Q0, E0, R1, h1, fun x v H2 h2 e2 R2 r2 => hq x v H2 h2 (e1.trans e2) R2 r2, he.later e1⟩⟩
    · exact ⟨false, r1.bl R1, hq _ _ H1 h1 e1 R1 (.inl (.bl false))⟩
    · exact h1.elim, he⟩⟩
theorem de_or {rest : List Expr} (ha : DE X W m' a wa) (hb : DE X W m (.BoolOp .Or (b :: rest) pos) wb) : DE X W m (.BoolOp .Or (a :: b :: rest) pos) (wOr wa wb) :=
  ⟨PE.weak (pe_or ha.pe hb.pe) fun σ H Q ⟨g, H0, ρ, Q0, E0, R, hw, hq, he⟩ => ⟨g, H0, ρ, _, E0, R, hw, fun x v H1 h1 e1 R1 r1 => by
    split at h1
    · exact ⟨true, r1.bl R1, hq _ _ H1 h1 e1 R1 (.inl (.bl true))⟩
    · exact ⟨false, r1.bl R1, ⟨g, H0, ρ, Q0, E0, R1, h1, fun x v H2 h2 e2 R2 r2 => hq x v H2 h2 (e1.trans e2) R2 r2, he.later e1⟩⟩
    · exact h1.elim, he⟩⟩
theorem de_not (ha : DE X W m' a wa) : DE X W m (.UnaryOp .Not a pos) (wNot wa) :=
  ⟨PE.weak (pe_not ha.pe) fun σ H Q ⟨g, H0, ρ, Q0, E0, R, hw, hq, he⟩ => ⟨g, H0, ρ, _, E0, R, hw, fun x v H1 h1 e1 R1 r1 => by
    split at h1
    · exact ⟨_, r1.bl R1, hq _ _ H1 h1 e1 R1 (.inl (.bl _))⟩
    · exact h1.elim, he⟩⟩
/-- a < b < c -/
def wChain (f f' : D → D → (D → Prop) → Prop) (wa wb wc : WE) : WE := fun ρ Q E => wa ρ (fun x => wb ρ (fun y => f x y (fun z => match z with
  | .bl true => wc ρ (fun u => f' y u Q) E
  | .bl false => Q (.bl false)
  | _ => False)) E) E
end
end PL
end
section
set_option Elab.async false
set_option linter.all false
set_option maxRecDepth 100000
set_option maxHeartbeats 4000000
/-! The plain layer, 3: operators and built-ins on data. -/
namespace PL
open PySem PySem.Spec PyProof.Rows L2
variable [TabList]

/-! ### whole numbers -/
def fI (C : Int → Int → Prop) (f : Int → Int → D) : D → D → (D → Prop) → Prop := fun x y Q => match x, y with
  | .int i, .int j => C i j ∧ Q (f i j)
  | _, _ => False
def fI0 (f : Int → Int → D) : D → D → (D → Prop) → Prop := fun x y Q => match x, y with
  | .int i, .int j => Q (f i j)
  | _, _ => False
section
variable {K : PySem.W.Frag} {m1 m2 m : Bool}
theorem rb_I {C : Int → Int → Prop} {f : Int → Int → D} {h : Int → Int → V} (hr : ∀ (H : Hp) (av : Addr → Prop) i j, Rp K H av (f i j) (h i j)) : RB K (rI C h) (fI C f) m1 m2 m := fun g H0 ρ σ H x y v u Q0 Q R hf r1 r2 k => by
  unfold fI at hf
  split at hf
  · exact ⟨_, _, r1.int R, r2.int R, hf.1, k _ _ H hf.2 (Evl.Ex.refl H) (.inl (hr ..))⟩
  · exact hf.elim
theorem rb_I0 {f : Int → Int → D} {h : Int → Int → V} (hr : ∀ (H : Hp) (av : Addr → Prop) i j, Rp K H av (f i j) (h i j)) : RB K (rI0 h) (fI0 f) m1 m2 m := fun g H0 ρ σ H x y v u Q0 Q R hf r1 r2 k => by
  unfold fI0 at hf
  split at hf
  · exact ⟨_, _, r1.int R, r2.int R, k _ _ H hf (Evl.Ex.refl H) (.inl (hr ..))⟩
  · exact hf.elim
end
abbrev fAdd := fI0 fun i j => .int (i + j)
abbrev fSub := fI0 fun i j => .int (i - j)
abbrev fMul := fI CMul fun i j => .int (i * j)
abbrev fDiv := fI CDiv fun i j => .int (i / j)
abbrev fMod := fI (fun _ j => 0 < j) fun i j => .int (i % j)
abbrev fPow := fI CPow fun i j => .int (i ^ j.toNat)
abbrev fLt := fI0 fun i j => .bl (decide (i < j))
abbrev fLe := fI0 fun i j => .bl (decide (i ≤ j))
abbrev fGt := fI0 fun i j => .bl (decide (j < i))
abbrev fGe := fI0 fun i j => .bl (decide (j ≤ i))
section
variable {X : Cx} {W : WX} {m m1 m2 m3 : Bool} {a b c e : Expr} {es : List Expr} {wa wb wc w : WE} {wt wu : WT} {ws : WA} {pos p : Pos}
theorem de_add (ha : DE X W true a wa) (hb : DE X W true b wb) : DE X W m (.BinOp a .Add b pos) (wB fAdd wa wb) := de_op op_add (rb_I0 fun _ _ _ _ => .int _) ha hb
theorem de_sub (ha : DE X W true a wa) (hb : DE X W true b wb) : DE X W m (.BinOp a .Sub b pos) (wB fSub wa wb) := de_op op_sub (rb_I0 fun _ _ _ _ => .int _) ha hb
theorem de_mul (ha : DE X W true a wa) (hb : DE X W true b wb) : DE X W m (.BinOp a .Mult b pos) (wB fMul wa wb) := de_op op_mul (rb_I fun _ _ _ _ => .int _) ha hb
theorem de_div (ha : DE X W true a wa) (hb : DE X W true b wb) : DE X W m (.BinOp a .FloorDiv b pos) (wB fDiv wa wb) := de_op op_fdiv (rb_I fun _ _ _ _ => .int _) ha hb
theorem de_mod (ha : DE X W true a wa) (hb : DE X W true b wb) : DE X W m (.BinOp a .Mod b pos) (wB fMod wa wb) := de_op op_mod (rb_I fun _ _ _ _ => .int _) ha hb
theorem de_pow (ha : DE X W true a wa) (hb : DE X W true b wb) : DE X W m (.BinOp a .Pow b pos) (wB fPow wa wb) := de_op op_pow (rb_I fun _ _ _ _ => .int _) ha hb
theorem de_lt (ha : DE X W true a wa) (hb : DE X W true b wb) : DE X W m (.Compare a [.Lt] [b] pos) (wB fLt wa wb) := de_cmp op_lt (rb_I0 fun _ _ _ _ => .bl _) ha hb (nomark _)
theorem de_le (ha : DE X W true a wa) (hb : DE X W true b wb) : DE X W m (.Compare a [.LtE] [b] pos) (wB fLe wa wb) := de_cmp op_le (rb_I0 fun _ _ _ _ => .bl _) ha hb (nomark _)
theorem de_gt (ha : DE X W true a wa) (hb : DE X W true b wb) : DE X W m (.Compare a [.Gt] [b] pos) (wB fGt wa wb) := de_cmp op_gt (rb_I0 fun _ _ _ _ => .bl _) ha hb (nomark _)
theorem de_ge (ha : DE X W true a wa) (hb : DE X W true b wb) : DE X W m (.Compare a [.GtE] [b] pos) (wB fGe wa wb) := de_cmp op_ge (rb_I0 fun _ _ _ _ => .bl _) ha hb (nomark _)
def fNeg : D → (D → Prop) → Prop := fun x Q => match x with
  | .int i => Q (.int (-i))
  | _ => False
theorem de_neg (ha : DE X W true a wa) : DE X W m (.UnaryOp .USub a pos) (wU fNeg wa) := de_un un_neg (fun g H0 ρ σ H x v Q0 Q R hf r k => by
  unfold fNeg at hf
  split at hf
  · exact ⟨_, r.int R, k _ _ H hf (Evl.Ex.refl H) (.inl (.int _))⟩
  · exact hf.elim) ha
/-- a < b < c of numbers -/
theorem de_chain {op op' : CmpOp} {r r' : R2} {f f' : D → D → (D → Prop) → Prop} (ho : OpR X (compareOp op) r) (ho' : OpR X (compareOp op') r') (hr : RB X.K r f true true true) (hr' : RB X.K r' f' true true m) (ha : DE X W true a wa) (hb : DE X W true b wb) (hc : DE X W true c wc)
    (hm : lastMarks [op, op'] [b, c] = false := by with_unfolding_all rfl) : DE X W m (.Compare a [op, op'] [b, c] pos) (wChain f f' wa wb wc) :=
  ⟨PE.weak (pe_chain ho ho' ha.pe hb.pe hc.pe hm) fun σ H Q ⟨g, H0, ρ, Q0, E0, R, hw, hq, he⟩ => ⟨g, H0, ρ, _, E0, R, hw, fun x v H1 h1 e1 R1 r1 => ⟨g, H0, ρ, _, E0, R1, h1, fun y u H2 h2 e2 R2 r2 =>
    hr g H0 ρ σ H2 x y v u _ _ R2 h2 (r1.mono e2) r2 fun z w H3 h3 e3 r3 => by
      have R3 := R2.ex e3
      split at h3
      · refine ⟨true, r3.bl R3, ?_⟩
        rw [if_pos rfl]
        exact ⟨g, H0, ρ, _, E0, R3, h3, fun z' w' H4 h4 e4 R4 r4 => hr' g H0 ρ σ H4 y z' u w' Q0 Q R4 h4 ((r2.mono (.of e3)).mono e4) r4 fun z2 w2 H5 h5 e5 r5 =>
          hq _ _ H5 h5 ((((e1.trans e2).trans (.of e3)).trans e4).trans (.of e5)) (R4.ex e5) r5, he.later ((e1.trans e2).trans (.of e3))⟩
      · refine ⟨false, r3.bl R3, ?_⟩
        rw [if_neg Bool.false_ne_true]
        exact hq _ _ H3 h3 ((e1.trans e2).trans (.of e3)) R3 (.inl (.bl _))
      · exact h3.elim, he.later e1⟩, he⟩⟩
theorem de_lele (ha : DE X W true a wa) (hb : DE X W true b wb) (hc : DE X W true c wc) (hm : lastMarks [.LtE, .LtE] [b, c] = false := by with_unfolding_all rfl) : DE X W m (.Compare a [.LtE, .LtE] [b, c] pos) (wChain fLe fLe wa wb wc) := de_chain op_le op_le (rb_I0 fun _ _ _ _ => .bl _) (rb_I0 fun _ _ _ _ => .bl _) ha hb hc hm
theorem de_lelt (ha : DE X W true a wa) (hb : DE X W true b wb) (hc : DE X W true c wc) (hm : lastMarks [.LtE, .Lt] [b, c] = false := by with_unfolding_all rfl) : DE X W m (.Compare a [.LtE, .Lt] [b, c] pos) (wChain fLe fLt wa wb wc) := de_chain op_le op_lt (rb_I0 fun _ _ _ _ => .bl _) (rb_I0 fun _ _ _ _ => .bl _) ha hb hc hm
end

/-! ### == of data -/
mutual
def toP : D → PyData
  | .non => .none
  | .bl b => .bool b
  | .int i => .int i
  | .str x => .str x
  | .tup xs => .tuple (toPs xs)
  | .lst xs => .list (toPs xs)
  | .ty _ => .dict []
  | .ref _ => .dict []
  | .hnd => .dict []
  | .scr _ => .dict []
  | .dK _ => .dict []
  | .dT _ => .dict []
  | .obj _ _ => .dict []
def toPs : List D → List PyData
  | [] => []
  | x :: xs => toP x :: toPs xs
end
mutual
/-- numbers, flags, texts, None, tuples and lists of these -/
def pla : D → Bool
  | .non => true
  | .bl _ => true
  | .int _ => true
  | .str _ => true
  | .tup xs => plas xs
  | .lst xs => plas xs
  | .ty _ => false
  | .ref _ => false
  | .hnd => false
  | .scr _ => false
  | .dK _ => false
  | .dT _ => false
  | .obj _ _ => false
def plas : List D → Bool
  | [] => true
  | x :: xs => pla x && plas xs
end
mutual
def dep : D → Nat
  | .tup xs => deps xs + 1
  | .lst xs => deps xs + 1
  | .non => 0
  | .bl _ => 0
  | .int _ => 0
  | .str _ => 0
  | .ty _ => 0
  | .ref _ => 0
  | .hnd => 0
  | .scr _ => 0
  | .dK _ => 0
  | .dT _ => 0
  | .obj _ _ => 0
def deps : List D → Nat
  | [] => 0
  | x :: xs => max (dep x) (deps xs)
end
mutual
def eqD : D → D → Bool
  | .non, y => match y with
    | .non => true
    | _ => false
  | .bl a, y => match y with
    | .bl b => decide (a = b)
    | .int j => decide ((if a then 1 else 0) = j)
    | _ => false
  | .int i, y => match y with
    | .int j => decide (i = j)
    | .bl b => decide (i = if b then 1 else 0)
    | _ => false
  | .str s, y => match y with
    | .str t => decide (s = t)
    | _ => false
  | .tup xs, y => match y with
    | .tup ys => eqDs xs ys
    | _ => false
  | .lst xs, y => match y with
    | .lst ys => eqDs xs ys
    | _ => false
  | .ty _, _ => false
  | .ref _, _ => false
  | .hnd, _ => false
  | .scr _, _ => false
  | .dK _, _ => false
  | .dT _, _ => false
  | .obj _ _, _ => false
def eqDs : List D → List D → Bool
  | [], ys => match ys with
    | [] => true
    | _ :: _ => false
  | x :: xs, ys => match ys with
    | [] => false
    | y :: ys => eqD x y && eqDs xs ys
end
mutual
theorem plain_toP : ∀ x : D, pla x = true → (toP x).plain = true
  | .non, _ => by simp only [toP, PyData.plain]
  | .bl _, _ => by simp only [toP, PyData.plain]
  | .int _, _ => by simp only [toP, PyData.plain]
  | .str _, _ => by simp only [toP, PyData.plain]
  | .tup xs, h => by simp only [toP, PyData.plain]; exact plain_toPs xs (by simpa only [pla] using h)
  | .lst xs, h => by simp only [toP, PyData.plain]; exact plain_toPs xs (by simpa only [pla] using h)
  | .ty _, h => by simp only [pla] at h; cases h
  | .ref _, h => by simp only [pla] at h; cases h
  | .hnd, h => by simp only [pla] at h; cases h
  | .scr _, h => by simp only [pla] at h; cases h
  | .dK _, h => by simp only [pla] at h; cases h
  | .dT _, h => by simp only [pla] at h; cases h
  | .obj _ _, h => by simp only [pla] at h; cases h
theorem plain_toPs : ∀ xs : List D, plas xs = true → PyData.plainAll (toPs xs) = true
  | [], _ => by simp only [toPs, PyData.plainAll]
  | x :: xs, h => by
    simp only [plas, Bool.and_eq_true] at h
    simp only [toPs, PyData.plainAll, Bool.and_eq_true]
    exact ⟨plain_toP x h.1, plain_toPs xs h.2⟩
end
mutual
theorem dep_toP : ∀ x : D, pla x = true → (toP x).depth = dep x
  | .non, _ => by simp only [toP, PyData.depth, dep]
  | .bl _, _ => by simp only [toP, PyData.depth, dep]
  | .int _, _ => by simp only [toP, PyData.depth, dep]
  | .str _, _ => by simp only [toP, PyData.depth, dep]
  | .tup xs, h => by simp only [toP, PyData.depth, dep]; rw [dep_toPs xs (by simpa only [pla] using h)]
  | .lst xs, h => by simp only [toP, PyData.depth, dep]; rw [dep_toPs xs (by simpa only [pla] using h)]
  | .ty _, h => by simp only [pla] at h; cases h
  | .ref _, h => by simp only [pla] at h; cases h
  | .hnd, h => by simp only [pla] at h; cases h
  | .scr _, h => by simp only [pla] at h; cases h
  | .dK _, h => by simp only [pla] at h; cases h
  | .dT _, h => by simp only [pla] at h; cases h
  | .obj _ _, h => by simp only [pla] at h; cases h
theorem dep_toPs : ∀ xs : List D, plas xs = true → PyData.depthAll (toPs xs) = deps xs
  | [], _ => by simp only [toPs, PyData.depthAll, deps]
  | x :: xs, h => by
    simp only [plas, Bool.and_eq_true] at h
    simp only [toPs, PyData.depthAll, deps]
    rw [dep_toP x h.1, dep_toPs xs h.2]
end
theorem beqd {α : Type} [BEq α] [LawfulBEq α] [DecidableEq α] (a b : α) : (a == b) = decide (a = b) := by
  by_cases h : a = b
  · subst h; simp
  · rw [decide_eq_false h]; simpa using h
mutual
theorem eqv_toP : ∀ x y : D, pla x = true → pla y = true → PyData.eqv (toP x) (toP y) = eqD x y
  | .non, y, _, h => by cases y <;> simp only [toP, PyData.eqv, eqD] <;> simp only [pla] at h <;> cases h
  | .bl a, y, _, h => by cases y <;> simp only [toP, PyData.eqv, eqD, beqd] <;> simp only [pla] at h <;> cases h
  | .int i, y, _, h => by cases y <;> simp only [toP, PyData.eqv, eqD, beqd] <;> simp only [pla] at h <;> cases h
  | .str s, y, _, h => by cases y <;> simp only [toP, PyData.eqv, eqD, beqd] <;> simp only [pla] at h <;> cases h
  | .tup xs, y, h0, h => by
    cases y with
    | tup ys => simp only [toP, PyData.eqv, eqD]; exact eqv_toPs xs ys (by simpa only [pla] using h0) (by simpa only [pla] using h)
    | _ => simp only [toP, PyData.eqv, eqD]
  | .lst xs, y, h0, h => by
    cases y with
    | lst ys => simp only [toP, PyData.eqv, eqD]; exact eqv_toPs xs ys (by simpa only [pla] using h0) (by simpa only [pla] using h)
    | _ => simp only [toP, PyData.eqv, eqD]
  | .ty _, _, h, _ => by simp only [pla] at h; cases h
  | .ref _, _, h, _ => by simp only [pla] at h; cases h
  | .hnd, _, h, _ => by simp only [pla] at h; cases h
  | .scr _, _, h, _ => by simp only [pla] at h; cases h
  | .dK _, _, h, _ => by simp only [pla] at h; cases h
  | .dT _, _, h, _ => by simp only [pla] at h; cases h
  | .obj _ _, _, h, _ => by simp only [pla] at h; cases h
theorem eqv_toPs : ∀ xs ys : List D, plas xs = true → plas ys = true → PyData.eqvAll (toPs xs) (toPs ys) = eqDs xs ys
  | [], [], _, _ => by simp only [toPs, PyData.eqvAll, eqDs]
  | [], _ :: _, _, _ => by simp only [toPs, PyData.eqvAll, eqDs]
  | _ :: _, [], _, _ => by simp only [toPs, PyData.eqvAll, eqDs]
  | x :: xs, y :: ys, h, h' => by
    simp only [plas, Bool.and_eq_true] at h h'
    simp only [toPs, PyData.eqvAll, eqDs]
    rw [eqv_toP x y h.1 h'.1, eqv_toPs xs ys h.2 h'.2]
end
section
variable {K : PySem.W.Frag} {H : Hp} {av : Addr → Prop}
mutual
theorem Rp.dp : ∀ {x : D} {v : V}, Rp K H av x v → pla x = true → Dp K H v (toP x)
  | _, _, .non, _ => by simp only [toP]; exact .non
  | _, _, .bl b, _ => by simp only [toP]; exact .bl b
  | _, _, .int i, _ => by simp only [toP]; exact .int i
  | _, _, .str x, _ => by simp only [toP]; exact .str x
  | _, _, .tup h r, p => by simp only [toP]; exact .tup h.sq (Rps.dp r (by simpa only [pla] using p))
  | _, _, .lst h n r, p => by simp only [toP]; exact .lst (.inl (.inl h)) (Rps.dp r (by simpa only [pla] using p))
  | _, _, .ty _, p => by simp only [pla] at p; cases p
  | _, _, .ref _, p => by simp only [pla] at p; cases p
  | _, _, .hnd _ _ _ _, p => by simp only [pla] at p; cases p
  | _, _, .scr _, p => by simp only [pla] at p; cases p
  | _, _, .dK _ _ _ _, p => by simp only [pla] at p; cases p
  | _, _, .dT _ _ _ _, p => by simp only [pla] at p; cases p
  | _, _, .obj _ _ _ _, p => by simp only [pla] at p; cases p
theorem Rps.dp : ∀ {xs : List D} {vs : List V}, Rps K H av xs vs → plas xs = true → DpAll K H vs (toPs xs)
  | _, _, .nil, _ => by simp only [toPs]; exact .nil
  | _, _, .cons h r, p => by
    simp only [plas, Bool.and_eq_true] at p
    simp only [toPs]
    exact .cons (Rp.dp h p.1) (Rps.dp r p.2)
end
theorem RpM.dp {g : G} {H0 : Bs} {ρ : PSt} {σ : L2.St} {m : Bool} {x : D} {v : V} (R : Rel K g H0 ρ σ H) (h : RpM m K H g ρ σ x v) (p : pla x = true) : Dp K H v (toP x) := by
  rcases h.cases R with h1 | ⟨a, rfl, h1⟩
  · exact h1.dp p
  · cases h1 with
    | lst h r => simp only [toP]; exact .lst (.inl (.inl h)) (r.dp (by simpa only [pla] using p))
    | dK _ _ _ => simp only [pla] at p; cases p
    | dT _ _ _ => simp only [pla] at p; cases p
end
section
variable {X : Cx}
def rEqP (K : PySem.W.Frag) : R2 := fun x y H Q => ∃ d e, Dp K H x d ∧ Dp K H y e ∧ d.plain = true ∧ e.plain = true ∧ min d.depth e.depth ≤ 100 ∧ Q (.bl (PyData.eqv d e)) H
def rNeP (K : PySem.W.Frag) : R2 := fun x y H Q => ∃ d e, Dp K H x d ∧ Dp K H y e ∧ d.plain = true ∧ e.plain = true ∧ min d.depth e.depth ≤ 100 ∧ Q (.bl (!PyData.eqv d e)) H
theorem op_eqP (hu : X.A.units + 110 < cLine) : OpR X (compareOp .Eq) (rEqP X.K) := by
  intro pins s σ H x y v u Q I rx ry h
  obtain ⟨d, e, hd, he, sd, se, hm, q⟩ := h
  obtain ⟨as, r1⟩ := Dp.reads I d x v hd rx
  obtain ⟨bs, r2⟩ := Dp.reads I e y u he ry
  exact SeqAt.eq_plain r1 r2 sd se (by omega) ⟨.bl _, H, I, rfl, q⟩
theorem op_neP (hu : X.A.units + 110 < cLine) : OpR X (compareOp .NotEq) (rNeP X.K) := by
  intro pins s σ H x y v u Q I rx ry h
  obtain ⟨d, e, hd, he, sd, se, hm, q⟩ := h
  obtain ⟨as, r1⟩ := Dp.reads I d x v hd rx
  obtain ⟨bs, r2⟩ := Dp.reads I e y u he ry
  exact SeqAt.ne_plain r1 r2 sd se (by omega) ⟨.bl _, H, I, rfl, q⟩
/-- x in c, c a list or tuple of data -/
def rInP (K : PySem.W.Frag) (neg : Bool) : R2 := fun x y H Q => ∃ d es, Dp K H x d ∧ (Dp K H y (.list es) ∨ Dp K H y (.tuple es)) ∧ d.plain = true ∧ PyData.plainAll es = true ∧ min (PyData.depthAll es) d.depth ≤ 100 ∧ Q (.bl (if neg then !(es.any fun e => PyData.eqv e d) else es.any fun e => PyData.eqv e d)) H
theorem op_inP (hu : X.A.units + 110 < cLine) : OpR X (compareOp .In) (rInP X.K false) := by
  intro pins s σ H x y v u Q I rx ry h
  obtain ⟨d, es, hd, he, sd, se, hm, q⟩ := h
  obtain ⟨as, r1⟩ := Dp.reads I d x v hd rx
  rcases he with he | he
  · obtain ⟨bs, r2⟩ := Dp.reads I _ y u he ry
    exact SeqAt.in_list_data r2 r1 se sd (by omega) ⟨.bl _, H, I, rfl, q⟩
  · obtain ⟨bs, r2⟩ := Dp.reads I _ y u he ry
    exact SeqAt.in_tuple_data r2 r1 se sd (by omega) ⟨.bl _, H, I, rfl, q⟩
theorem op_notInP (hu : X.A.units + 110 < cLine) : OpR X (compareOp .NotIn) (rInP X.K true) := by
  intro pins s σ H x y v u Q I rx ry h
  obtain ⟨d, es, hd, he, sd, se, hm, q⟩ := h
  obtain ⟨as, r1⟩ := Dp.reads I d x v hd rx
  rcases he with he | he
  · obtain ⟨bs, r2⟩ := Dp.reads I _ y u he ry
    exact SeqAt.notIn_list_data r2 r1 se sd (by omega) ⟨.bl _, H, I, rfl, q⟩
  · obtain ⟨bs, r2⟩ := Dp.reads I _ y u he ry
    exact SeqAt.notIn_tuple_data r2 r1 se sd (by omega) ⟨.bl _, H, I, rfl, q⟩
end
def fEq : D → D → (D → Prop) → Prop := fun x y Q => pla x = true ∧ pla y = true ∧ min (dep x) (dep y) ≤ 100 ∧ Q (.bl (eqD x y))
def fNe : D → D → (D → Prop) → Prop := fun x y Q => pla x = true ∧ pla y = true ∧ min (dep x) (dep y) ≤ 100 ∧ Q (.bl (!eqD x y))
def inDs (x : D) (ys : List D) : Bool := ys.any fun y => eqD y x
def fIn (neg : Bool) : D → D → (D → Prop) → Prop := fun x y Q => match y with
  | .lst ys => pla x = true ∧ plas ys = true ∧ min (deps ys) (dep x) ≤ 100 ∧ Q (.bl (if neg then !inDs x ys else inDs x ys))
  | .tup ys => pla x = true ∧ plas ys = true ∧ min (deps ys) (dep x) ≤ 100 ∧ Q (.bl (if neg then !inDs x ys else inDs x ys))
  | _ => False
theorem any_toPs (x : D) (hx : pla x = true) : ∀ ys : List D, plas ys = true → ((toPs ys).any fun e => PyData.eqv e (toP x)) = inDs x ys
  | [], _ => by simp only [toPs, inDs, List.any_nil]
  | y :: ys, h => by
    simp only [plas, Bool.and_eq_true] at h
    simp only [toPs, List.any_cons, inDs]
    rw [any_toPs x hx ys h.2, eqv_toP y x h.1 hx]
    rfl
section
variable {K : PySem.W.Frag} {m m1 m2 : Bool}
theorem rb_eq : RB K (rEqP K) fEq m1 m2 m := fun g H0 ρ σ H x y v u Q0 Q R hf r1 r2 k => by
  obtain ⟨p1, p2, p3, q⟩ := hf
  refine ⟨_, _, r1.dp R p1, r2.dp R p2, plain_toP x p1, plain_toP y p2, by rw [dep_toP x p1, dep_toP y p2]; exact p3, ?_⟩
  rw [eqv_toP x y p1 p2]
  exact k _ _ H q (Evl.Ex.refl H) (.inl (.bl _))
theorem rb_ne : RB K (rNeP K) fNe m1 m2 m := fun g H0 ρ σ H x y v u Q0 Q R hf r1 r2 k => by
  obtain ⟨p1, p2, p3, q⟩ := hf
  refine ⟨_, _, r1.dp R p1, r2.dp R p2, plain_toP x p1, plain_toP y p2, by rw [dep_toP x p1, dep_toP y p2]; exact p3, ?_⟩
  rw [eqv_toP x y p1 p2]
  exact k _ _ H q (Evl.Ex.refl H) (.inl (.bl _))
theorem rb_in {neg : Bool} : RB K (rInP K neg) (fIn neg) m1 m2 m := fun g H0 ρ σ H x y v u Q0 Q R hf r1 r2 k => by
  unfold fIn at hf
  split at hf
  · rename_i ys
    obtain ⟨p1, p2, p3, q⟩ := hf
    have r := r2.dp R (show pla (.lst ys) = true by simpa only [pla] using p2)
    simp only [toP] at r
    refine ⟨_, _, r1.dp R p1, .inl r, plain_toP x p1, plain_toPs ys p2, by rw [dep_toPs ys p2, dep_toP x p1]; exact p3, ?_⟩
    rw [any_toPs x p1 ys p2]
    exact k _ _ H q (Evl.Ex.refl H) (.inl (.bl _))
  · rename_i ys
    obtain ⟨p1, p2, p3, q⟩ := hf
    have r := r2.dp R (show pla (.tup ys) = true by simpa only [pla] using p2)
    simp only [toP] at r
    refine ⟨_, _, r1.dp R p1, .inr r, plain_toP x p1, plain_toPs ys p2, by rw [dep_toPs ys p2, dep_toP x p1]; exact p3, ?_⟩
    rw [any_toPs x p1 ys p2]
    exact k _ _ H q (Evl.Ex.refl H) (.inl (.bl _))
  · exact hf.elim
end
theorem hu110 {A : Around} {k : Nat} (hr : Room k A) : A.units + 110 < cLine := by have := hr.un; omega
section
variable {X : Cx} {W : WX} {k : Nat} {m m1 m2 m3 : Bool} {a b c e : Expr} {es : List Expr} {wa wb wc w : WE} {wt wu : WT} {ws : WA} {pos p : Pos}
theorem de_eq (hr : Room k X.A) (ha : DE X W m1 a wa) (hb : DE X W m2 b wb) : DE X W m (.Compare a [.Eq] [b] pos) (wB fEq wa wb) := de_cmp (op_eqP (hu110 hr)) rb_eq ha hb (nomark _)
theorem de_ne (hr : Room k X.A) (ha : DE X W m1 a wa) (hb : DE X W m2 b wb) : DE X W m (.Compare a [.NotEq] [b] pos) (wB fNe wa wb) := de_cmp (op_neP (hu110 hr)) rb_ne ha hb (nomark _)
theorem de_in (hr : Room k X.A) (ha : DE X W m1 a wa) (hb : DE X W m2 b wb) (hm : behindInMarks .In b = false := by rfl) : DE X W m (.Compare a [.In] [b] pos) (wB (fIn false) wa wb) := de_cmp (op_inP (hu110 hr)) rb_in ha hb hm
theorem de_notIn (hr : Room k X.A) (ha : DE X W m1 a wa) (hb : DE X W m2 b wb) (hm : behindInMarks .NotIn b = false := by rfl) : DE X W m (.Compare a [.NotIn] [b] pos) (wB (fIn true) wa wb) := de_cmp (op_notInP (hu110 hr)) rb_in ha hb hm
/-- x is None -/
def isNon : D → Bool
  | .non => true
  | _ => false
def fIs (neg : Bool) : D → D → (D → Prop) → Prop := fun x y Q => match y with
  | .non => Q (.bl (if neg then !isNon x else isNon x))
  | _ => False
theorem non_iff {K : PySem.W.Frag} {g : G} {H0 : Bs} {H : Hp} {ρ : PSt} {σ : L2.St} {x : D} {v : V} (R : Rel K g H0 ρ σ H) (h : RpM m K H g ρ σ x v) : decide (v = .non) = isNon x := by
  rcases h.cases R with h1 | ⟨a, rfl, h1⟩
  · cases h1 <;> rfl
  · cases h1 <;> rfl
theorem de_isN (ha : DE X W m1 a wa) (hb : DE X W m2 b wb) : DE X W m (.Compare a [.Is] [b] pos) (wB (fIs false) wa wb) := de_cmp op_isN (fun g H0 ρ σ H x y v u Q0 Q R hf r1 r2 k => by
  unfold fIs at hf
  split at hf
  · refine ⟨r2.non R, ?_⟩
    rw [non_iff R r1]
    exact k _ _ H hf (Evl.Ex.refl H) (.inl (.bl _))
  · exact hf.elim) ha hb (nomark _)
theorem de_notN (ha : DE X W m1 a wa) (hb : DE X W m2 b wb) : DE X W m (.Compare a [.IsNot] [b] pos) (wB (fIs true) wa wb) := de_cmp op_notN (fun g H0 ρ σ H x y v u Q0 Q R hf r1 r2 k => by
  unfold fIs at hf
  split at hf
  · refine ⟨r2.non R, ?_⟩
    rw [non_iff R r1]
    exact k _ _ H hf (Evl.Ex.refl H) (.inl (.bl _))
  · exact hf.elim) ha hb (nomark _)

/-! ### lists and tuples: items, cuts, joins, lengths -/
def fIx : D → D → (D → Prop) → Prop := fun x y Q => match x, y with
  | .lst xs, .int i => match atI xs i with
    | some z => Q z
    | none => False
  | .tup xs, .int i => match atI xs i with
    | some z => Q z
    | none => False
  | _, _ => False
theorem Rps.atI {K : PySem.W.Frag} {H : Hp} {av : Addr → Prop} {xs : List D} {vs : List V} {i : Int} {z : D} (r : Rps K H av xs vs) (h : L2.atI xs i = some z) : ∃ v, L2.atI vs i = some v ∧ Rp K H av z v := by
  unfold L2.atI at h ⊢
  rw [← r.length]
  cases e : ixN xs.length i with
  | none => rw [e] at h; cases h
  | some j =>
    rw [e] at h
    exact r.get h
theorem rb_ix {K : PySem.W.Frag} : RB K (rIx K) fIx m1 m2 m := fun g H0 ρ σ H x y v u Q0 Q R hf r1 r2 k => by
  unfold fIx at hf
  split at hf
  · split at hf
    · rename_i e
      obtain ⟨a, vs, e1, h1, rs⟩ := r1.lst R
      obtain ⟨w, h2, h3⟩ := rs.atI e
      exact .inl ⟨a, vs, _, w, e1, r2.int R, .inl (.inl h1), h2, k _ _ H hf (Evl.Ex.refl H) (.inl h3)⟩
    · exact hf.elim
  · split at hf
    · rename_i e
      obtain ⟨a, vs, e1, h1, rs⟩ := r1.tup R
      obtain ⟨w, h2, h3⟩ := rs.atI e
      exact .inr (.inl ⟨a, vs, _, w, e1, r2.int R, h1, h2, k _ _ H hf (Evl.Ex.refl H) (.inl h3)⟩)
    · exact hf.elim
  · exact hf.elim
theorem de_at (ha : DE X W m1 a wa) (hb : DE X W m2 b wb) (hs : PlainIx b := by exact (fun _ _ => rfl)) : DE X W m (.Subscript a b pos) (wB fIx wa wb) := de_ix ix_seq rb_ix ha hb hs
/-- xs + ys, lists -/
def fCat : D → D → (D → Prop) → Prop := fun x y Q => match x, y with
  | .lst xs, .lst ys => xs.length + ys.length ≤ LL ∧ Q (.lst (xs ++ ys))
  | _, _ => False
theorem df_cat (ha : DE X W m1 a wa) (hb : DE X W m2 b wb) : DF X W (.BinOp a .Add b pos) (wB fCat wa wb) := df_op op_cat (fun g H0 ρ σ H x y v u Q0 Q R hf r1 r2 k => by
  unfold fCat at hf
  split at hf
  · obtain ⟨a, vs, e1, h1, rs⟩ := r1.lst R
    obtain ⟨b, us, e2, h2, rt⟩ := r2.lst R
    refine ⟨a, b, vs, us, e1, e2, h1, h2, by rw [← rs.length, ← rt.length]; exact ll_le hf.1, fun p hp => k _ _ _ hf.2 (Evl.Ex.new hp) (nnt hp) (.lst upd_same ((rs.app rt).mono (Ext.new hp) Rel.chS (avP_new (nnt hp))))⟩
  · exact hf.elim) ha hb
/-- t + u, tuples -/
def fCatT : D → D → (D → Prop) → Prop := fun x y Q => match x, y with
  | .tup xs, .tup ys => xs.length + ys.length ≤ LL ∧ Q (.tup (xs ++ ys))
  | _, _ => False
theorem Rps.nil_iff {K : PySem.W.Frag} {H : Hp} {av : Addr → Prop} {xs : List D} {vs : List V} (r : Rps K H av xs vs) : vs = [] ↔ xs = [] := by
  cases r with
  | nil => simp
  | cons _ _ => simp
theorem de_catT (ha : DE X W m1 a wa) (hb : DE X W m2 b wb) : DE X W m (.BinOp a .Add b pos) (wB fCatT wa wb) := de_op op_catA (fun g H0 ρ σ H x y v u Q0 Q R hf r1 r2 k => by
  unfold fCatT at hf
  split at hf
  · rename_i xs ys
    obtain ⟨a, vs, e1, h1, rs⟩ := r1.tup R
    obtain ⟨b, us, e2, h2, rt⟩ := r2.tup R
    have r1' : RpM m X.K H g ρ σ (.tup xs) v := by
      rcases r1.cases R with q | ⟨_, _, q⟩
      · exact .inl q
      · cases q
    have r2' : RpM m X.K H g ρ σ (.tup ys) u := by
      rcases r2.cases R with q | ⟨_, _, q⟩
      · exact .inl q
      · cases q
    refine ⟨a, b, vs, us, e1, e2, h1, h2, by rw [← rs.length, ← rt.length]; exact ll_le hf.1, fun z => ?_, fun z z2 => ?_, fun z z2 p hp => ?_⟩
    · have e := rs.nil_iff.mp z
      subst e
      rw [← e2]
      exact k _ _ H hf.2 (Evl.Ex.refl H) r2'
    · have e := rt.nil_iff.mp z2
      subst e
      rw [List.append_nil] at hf
      rw [← e1]
      exact k _ _ H hf.2 (Evl.Ex.refl H) r1'
    · exact k _ _ _ hf.2 (Evl.Ex.new hp) (.inl (.tup (.inl ⟨.inl upd_same, R.fresh (nnt hp)⟩) ((rs.app rt).mono (Ext.new hp) Rel.chS fun _ _ z => z)))
  · exact hf.elim) ha hb
/-- xs * n -/
def fRep : D → D → (D → Prop) → Prop := fun x y Q => match x, y with
  | .lst xs, .int n => 0 ≤ n ∧ n ≤ 100000 ∧ xs.length * n.toNat ≤ LL ∧ Q (.lst (List.replicate n.toNat xs).flatten)
  | _, _ => False
theorem Rps.rep {K : PySem.W.Frag} {H : Hp} {av : Addr → Prop} {xs : List D} {vs : List V} (r : Rps K H av xs vs) : ∀ k : Nat, Rps K H av (List.replicate k xs).flatten (List.replicate k vs).flatten
  | 0 => by simp; exact .nil
  | k + 1 => by
    rw [List.replicate_succ, List.replicate_succ, List.flatten_cons, List.flatten_cons]
    exact r.app (Rps.rep r k)
theorem df_rep (ha : DE X W m1 a wa) (hb : DE X W m2 b wb) : DF X W (.BinOp a .Mult b pos) (wB fRep wa wb) := df_op op_rep (fun g H0 ρ σ H x y v u Q0 Q R hf r1 r2 k => by
  unfold fRep at hf
  split at hf
  · obtain ⟨a, vs, e1, h1, rs⟩ := r1.lst R
    refine ⟨a, _, vs, e1, r2.int R, h1, by omega, by omega, by rw [← rs.length]; exact ll_le hf.2.2.1, fun p hp => k _ _ _ hf.2.2.2 (Evl.Ex.new hp) (nnt hp) (.lst upd_same ((rs.rep _).mono (Ext.new hp) Rel.chS (avP_new (nnt hp))))⟩
  · exact hf.elim) ha hb
/-- xs[lo:hi] -/
abbrev WO := PSt → (Option Int → Prop) → (Err → Prop) → Prop
def upO (K : PySem.W.Frag) (w : WO) (W : WX) : TO := fun σ H Q => ∃ (g : G) (H0 : Bs) (ρ : PSt) (Q0 : Option Int → Prop) (E0 : Err → Prop), Rel K g H0 ρ σ H ∧ w ρ Q0 E0 ∧
  (∀ b H', Q0 b → Ext g.ch H H' → Rel K g H0 ρ σ H' → Q b H') ∧ ErrK K g H0 ρ σ H W E0
structure DO (X : Cx) (W : WX) (e : Option Expr) (w : WO) : Prop where
  po : PO X e (upO X.K w W)
def wPart (wa : WE) : WO := fun ρ Q E => wa ρ (fun x => match x with
  | .int i => Q (some i)
  | _ => False) E
def wNoPart : WO := fun _ Q _ => Q none
theorem PO.weak {X : Cx} {e : Option Expr} {t t' : TO} (h : PO X e t) (k : ∀ σ H Q, t' σ H Q → t σ H Q) : PO X e t' := ⟨fun pins s σ H Q I q => h.run pins s σ H Q I (k σ H Q q)⟩
theorem do_some (h : DE X W m1 e wa) : DO X W (some e) (wPart wa) := ⟨PO.weak (po_some h.pe) fun σ H Q ⟨g, H0, ρ, Q0, E0, R, hw, hq, he⟩ => ⟨g, H0, ρ, _, E0, R, hw, fun x v H1 h1 e1 R1 r1 => by
  split at h1
  · exact ⟨_, r1.int R1, hq _ H1 h1 e1 R1⟩
  · exact h1.elim, he⟩⟩
theorem do_none : DO X W none wNoPart := ⟨PO.weak po_none fun σ H Q ⟨g, H0, ρ, Q0, E0, R, hw, hq, he⟩ => hq none H hw Ext.refl R⟩
def cutD (xs : List D) (lo hi : Option Int) : List D := (xs.drop (HT.sIx xs.length 0 lo)).take (HT.sIx xs.length xs.length hi - HT.sIx xs.length 0 lo)
theorem Rps.cut {K : PySem.W.Frag} {H : Hp} {av : Addr → Prop} {xs : List D} {vs : List V} {lo hi : Option Int} (r : Rps K H av xs vs) : Rps K H av (cutD xs lo hi) (cutV vs lo hi) := by
  unfold cutD cutV
  rw [← r.length]
  exact (r.drop _).take _
def wSl (f : D → Option Int → Option Int → (D → Prop) → Prop) (wa : WE) (wl wh : WO) : WE := fun ρ Q E => wa ρ (fun x => wl ρ (fun lo => wh ρ (fun hi => f x lo hi Q) E) E) E
def fCutL : D → Option Int → Option Int → (D → Prop) → Prop := fun x lo hi Q => match x with
  | .lst xs => Q (.lst (cutD xs lo hi))
  | _ => False
def fCutT : D → Option Int → Option Int → (D → Prop) → Prop := fun x lo hi Q => match x with
  | .tup xs => Q (.tup (cutD xs lo hi))
  | _ => False
theorem df_cutL {lo hi : Option Expr} {wl wh : WO} {p2} (ha : DE X W m1 a wa) (hl : DO X W lo wl) (hh : DO X W hi wh) : DF X W (.Subscript a (.Slice lo hi none p2) pos) (wSl fCutL wa wl wh) :=
  ⟨PE.weak (pe_slice sl_list ha.pe hl.po hh.po) fun σ H Q ⟨g, H0, ρ, Q0, E0, R, hw, hq, he⟩ => ⟨g, H0, ρ, _, E0, R, hw, fun x v H1 h1 e1 R1 r1 => ⟨g, H0, ρ, _, E0, R1, h1, fun lo H2 h2 e2 R2 => ⟨g, H0, ρ, _, E0, R2, h2, fun hi H3 h3 e3 R3 => by
    unfold fCutL at h3
    split at h3
    · obtain ⟨a, vs, e5, h5, rs⟩ := (((r1.mono e2).mono e3)).lst R3
      exact ⟨a, vs, e5, .inl (.inl h5), fun p hp => hq _ _ _ h3 (((e1.trans e2).trans e3).trans (.new hp)) (R3.new hp) (e1.free (e2.free (e3.free (nnt hp)))) (.lst upd_same (rs.cut.mono (Ext.new hp) Rel.chS (avP_new (nnt hp))))⟩
    · exact h3.elim, he.later (e1.trans e2)⟩, he.later e1⟩, he⟩⟩
def fCutS : D → Option Int → Option Int → (D → Prop) → Prop := fun x lo hi Q => match x with
  | .scr ns => Q (.lst (cutD (ns.map .int) lo hi))
  | _ => False
theorem df_cutS {lo hi : Option Expr} {wl wh : WO} {p2} (ha : DE X W m1 a wa) (hl : DO X W lo wl) (hh : DO X W hi wh) : DF X W (.Subscript a (.Slice lo hi none p2) pos) (wSl fCutS wa wl wh) :=
  ⟨PE.weak (pe_slice sl_list ha.pe hl.po hh.po) fun σ H Q ⟨g, H0, ρ, Q0, E0, R, hw, hq, he⟩ => ⟨g, H0, ρ, _, E0, R, hw, fun x v H1 h1 e1 R1 r1 => ⟨g, H0, ρ, _, E0, R1, h1, fun lo H2 h2 e2 R2 => ⟨g, H0, ρ, _, E0, R2, h2, fun hi H3 h3 e3 R3 => by
    unfold fCutS at h3
    split at h3
    · rename_i ns
      rcases ((r1.mono e2).mono e3).cases R3 with r | ⟨_, _, r⟩
      · cases r with
        | scr hs => exact ⟨_, _, rfl, hs.sq, fun p hp => hq _ _ _ h3 (((e1.trans e2).trans e3).trans (.new hp)) (R3.new hp) (e1.free (e2.free (e3.free (nnt hp)))) (.lst upd_same ((Rps.of_ints ns).cut.mono (Ext.new hp) Rel.chS (avP_new (nnt hp))))⟩
      · cases r
    · exact h3.elim, he.later (e1.trans e2)⟩, he.later e1⟩, he⟩⟩
theorem cut_whole {xs : List D} {lo hi : Option Int} (h : HT.sIx xs.length 0 lo = 0 ∧ HT.sIx xs.length xs.length hi = xs.length) : cutD xs lo hi = xs := by
  unfold cutD
  rw [h.1, h.2]
  simp
theorem de_cutT {lo hi : Option Expr} {wl wh : WO} {p2} (ha : DE X W m1 a wa) (hl : DO X W lo wl) (hh : DO X W hi wh) : DE X W m (.Subscript a (.Slice lo hi none p2) pos) (wSl fCutT wa wl wh) :=
  ⟨PE.weak (pe_slice sl_tupA ha.pe hl.po hh.po) fun σ H Q ⟨g, H0, ρ, Q0, E0, R, hw, hq, he⟩ => ⟨g, H0, ρ, _, E0, R, hw, fun x v H1 h1 e1 R1 r1 => ⟨g, H0, ρ, _, E0, R1, h1, fun lo H2 h2 e2 R2 => ⟨g, H0, ρ, _, E0, R2, h2, fun hi H3 h3 e3 R3 => by
    unfold fCutT at h3
    split at h3
    · rename_i xs
      have rm := (r1.mono e2).mono e3
      obtain ⟨a, vs, e5, h5, rs⟩ := rm.tup R3
      have rm' : RpM m X.K H3 g ρ σ (.tup xs) v := by
        rcases rm.cases R3 with q | ⟨_, _, q⟩
        · exact .inl q
        · cases q
      refine ⟨a, vs, e5, h5, fun hw => ?_, fun hw p hp => hq _ _ _ h3 (((e1.trans e2).trans e3).trans (.new hp)) (R3.new hp) (.inl (.tup (.inl ⟨.inl upd_same, R3.fresh (nnt hp)⟩) (rs.cut.mono (Ext.new hp) Rel.chS fun _ _ z => z)))⟩
      rw [cut_whole (by rw [rs.length]; exact hw)] at h3
      rw [← e5]
      exact hq _ _ _ h3 ((e1.trans e2).trans e3) R3 rm'
    · exact h3.elim, he.later (e1.trans e2)⟩, he.later e1⟩, he⟩⟩
end
end PL
end
section
set_option Elab.async false
set_option linter.all false
set_option maxRecDepth 100000
set_option maxHeartbeats 4000000
/-! The plain layer, 4: statements. -/
namespace PL
open PySem PySem.Spec PyProof.Rows L2
variable [TabList]

structure PEnds where
  nx : PSt → Prop
  rt : D → PSt → Prop
  bk : PSt → Prop
  ct : PSt → Prop
  er : Err → Prop
abbrev WS := PEnds → PSt → Prop
/-- the ends on data lead to the ends on values -/
structure EndsOk (K : PySem.W.Frag) (g : G) (H0 : Bs) (D0 : PEnds) (Dn : Ends) (W : WX) : Prop where
  nx : ∀ ρ σ H, D0.nx ρ → Rel K g H0 ρ σ H → Dn.nx σ H
  rt : ∀ x ρ σ v H, D0.rt x ρ → Rel K g H0 ρ σ H → Rp K H (avS g ρ σ) x v → Dn.rt v H
  bk : ∀ ρ σ H, D0.bk ρ → Rel K g H0 ρ σ H → Dn.bk σ H
  ct : ∀ ρ σ H, D0.ct ρ → Rel K g H0 ρ σ H → Dn.ct σ H
  er : ∀ er cls d ρ σ H, D0.er er → Rel K g H0 ρ σ H → ErrIs K H (avS g ρ σ) er cls d → W cls d σ H
def upS (K : PySem.W.Frag) (w : WS) (W : WX) : TS := fun Dn σ H => ∃ (g : G) (H0 : Bs) (ρ : PSt) (D0 : PEnds), Rel K g H0 ρ σ H ∧ w D0 ρ ∧ EndsOk K g H0 D0 Dn W
structure DS (X : Cx) (W : WX) (st : Stmt) (w : WS) : Prop where
  ps : PS X st (upS X.K w W)
structure DSs (X : Cx) (W : WX) (sts : List Stmt) (w : WS) : Prop where
  ps : PSs X sts (upS X.K w W)
theorem EndsOk.ek {K : PySem.W.Frag} {g : G} {H0 : Bs} {D0 : PEnds} {Dn : Ends} {W : WX} {ρ : PSt} {σ : L2.St} {H : Hp} (ok : EndsOk K g H0 D0 Dn W) : ErrK K g H0 ρ σ H W D0.er := fun er cls d H' h _ R ei => ok.er er cls d ρ σ H' h R ei

/-! ### slots set -/
section
variable {K : PySem.W.Frag} {g : G} {H0 : Bs} {H H1 H2 : Hp} {ρ : PSt} {σ : L2.St} {i : Nat} {x : D} {v : V} {a : Addr}
theorem get_setS {α : Type} {l : List (Option α)} {i j : Nat} {x y : α} (h : (l.set i (some x))[j]? = some (some y)) : (j = i ∧ i < l.length ∧ y = x) ∨ (j ≠ i ∧ l[j]? = some (some y)) ∨ (j ≠ i ∧ l[j]? = some (some y)) := by
  by_cases e : i = j
  · subst e
    by_cases hl : i < l.length
    · rw [List.getElem?_set_self hl] at h
      cases h
      exact .inl ⟨rfl, hl, rfl⟩
    · rw [List.getElem?_eq_none (by simpa using hl)] at h
      cases h
  · rw [List.getElem?_set_ne e] at h
    exact .inr (.inl ⟨fun z => e z.symm, h⟩)
theorem get_setN {α : Type} {l : List (Option α)} {i j : Nat} {x : Option α} (e : j ≠ i) : (l.set i x)[j]? = l[j]? := List.getElem?_set_ne fun z => e z.symm
theorem avS_setD {b : Addr} (hl : ρ.length = σ.length) (h : avS g (ρ.set i (some (.d x))) (σ.set i (some v)) b) : avS g ρ σ b := by
  rcases h with h | ⟨j, y, h1, h2⟩
  · exact .inl h
  · rcases get_setS h1 with ⟨_, _, e⟩ | ⟨n, h1⟩ | ⟨n, h1⟩
    · cases e
    · rw [get_setN n] at h2
      exact .inr ⟨j, y, h1, h2⟩
    · rw [get_setN n] at h2
      exact .inr ⟨j, y, h1, h2⟩
/-- a slot is set to data -/
theorem Rel.setD (R : Rel K g H0 ρ σ H) (r : Rp K H (avS g ρ σ) x v) : Rel K g H0 (ρ.set i (some (.d x))) (σ.set i (some v)) H where
  ok := R.ok
  ext := R.ext
  gch := R.gch
  len := by rw [List.length_set, List.length_set]; exact R.len
  avt := R.avt
  dat := fun j y h => by
    rcases get_setS h with ⟨e, hl, e2⟩ | ⟨n, h⟩ | ⟨n, h⟩
    · cases e2
      subst e
      exact ⟨v, List.getElem?_set_self (by rw [← R.len]; exact hl), r.less fun _ _ z => avS_setD R.len z⟩
    all_goals
      obtain ⟨u, h1, h2⟩ := R.dat j y h
      exact ⟨u, by rw [get_setN n]; exact h1, h2.less fun _ _ z => avS_setD R.len z⟩
  own := fun j y h => by
    rcases get_setS h with ⟨e, hl, e2⟩ | ⟨n, h⟩ | ⟨n, h⟩
    · cases e2
    all_goals
      obtain ⟨b, h1, h2, h3, h4⟩ := R.own j y h
      exact ⟨b, by rw [get_setN n]; exact h1, h2, h3, h4.mono (ch := fun _ => False) Ext.refl (fun _ z => z.elim) (fun _ _ z => avS_setD R.len z) fun z => z.elim⟩
  dis := fun j k y z b h1 h2 h3 h4 => by
    rcases get_setS h1 with ⟨_, _, e⟩ | ⟨n1, h1⟩ | ⟨n1, h1⟩
    · cases e
    all_goals
      rcases get_setS h2 with ⟨_, _, e⟩ | ⟨n2, h2⟩ | ⟨n2, h2⟩
      · cases e
      all_goals
        rw [get_setN n1] at h3
        rw [get_setN n2] at h4
        exact R.dis j k y z b h1 h2 h3 h4
theorem avS_setO {b : Addr} (h : avS g (ρ.set i (some (.own x))) (σ.set i (some (.ref a))) b) : avP g ρ σ a b := by
  rcases h with h | ⟨j, y, h1, h2⟩
  · exact .inl (.inl h)
  · by_cases e : j = i
    · subst e
      by_cases hl : j < σ.length
      · rw [List.getElem?_set_self hl] at h2
        cases h2
        exact .inr rfl
      · rw [List.getElem?_eq_none (by simpa using hl)] at h2
        cases h2
    · rw [get_setN e] at h1 h2
      exact .inl (.inr ⟨j, y, h1, h2⟩)
/-- a slot is set to a new list or dict -/
theorem Rel.setO (R1 : Rel K g H0 ρ σ H1) (R2 : Rel K g H0 ρ σ H2) (e : Ext g.ch H1 H2) (n : ¬ NT H1 a) (o : OwnAt K H2 (avP g ρ σ a) x a) : Rel K g H0 (ρ.set i (some (.own x))) (σ.set i (some (.ref a))) H2 where
  ok := R2.ok
  ext := R2.ext
  gch := R2.gch
  len := by rw [List.length_set, List.length_set]; exact R2.len
  avt := R2.avt
  dat := fun j y h => by
    rcases get_setS h with ⟨_, _, e2⟩ | ⟨nj, h⟩ | ⟨nj, h⟩
    · cases e2
    all_goals
      obtain ⟨u, h1, h2⟩ := R1.dat j y h
      exact ⟨u, by rw [get_setN nj]; exact h1, h2.mono e Rel.chS fun b hb z => avP_new n b hb (avS_setO z)⟩
  own := fun j y h => by
    rcases get_setS h with ⟨e1, hl, e2⟩ | ⟨nj, h⟩ | ⟨nj, h⟩
    · cases e2
      subst e1
      exact ⟨a, List.getElem?_set_self (by rw [← R2.len]; exact hl), fun z => n (R1.avt a z), .inl (R1.ext.free n), o.mono (ch := fun _ => False) Ext.refl (fun _ z => z.elim) (fun _ _ z => avS_setO z) fun z => z.elim⟩
    all_goals
      obtain ⟨b, h1, h2, h3, h4⟩ := R1.own j y h
      exact ⟨b, by rw [get_setN nj]; exact h1, h2, h3, h4.mono e Rel.chS (fun b hb z => avP_new n b hb (avS_setO z)) fun z => h2 (g.chav b z)⟩
  dis := fun j k y z b h1 h2 h3 h4 => by
    have key : ∀ j y, ρ[j]? = some (some (S.own y)) → σ[j]? ≠ some (some (V.ref a)) := fun j y q z => by
      obtain ⟨b, k1, _, _, k4⟩ := R1.own j y q
      rw [z] at k1
      cases k1
      exact n k4.nt
    have cse : ∀ j y, (ρ.set i (some (S.own x)))[j]? = some (some (S.own y)) → (σ.set i (some (V.ref a)))[j]? = some (some (V.ref b)) → (j = i ∧ b = a) ∨ (j ≠ i ∧ ρ[j]? = some (some (S.own y)) ∧ σ[j]? = some (some (V.ref b))) := fun j y q1 q2 => by
      by_cases e : j = i
      · subst e
        by_cases l : j < σ.length
        · rw [List.getElem?_set_self l] at q2
          cases q2
          exact .inl ⟨rfl, rfl⟩
        · rw [List.getElem?_eq_none (by simpa using l)] at q2
          cases q2
      · rw [get_setN e] at q1 q2
        exact .inr ⟨e, q1, q2⟩
    rcases cse j y h1 h3 with ⟨e1, q1⟩ | ⟨n1, p1, r1⟩ <;> rcases cse k z h2 h4 with ⟨e2, q2⟩ | ⟨n2, p2, r2⟩
    · rw [e1, e2]
    · exact absurd r2 (by rw [q1]; exact key _ _ p2)
    · exact absurd r1 (by rw [q2]; exact key _ _ p1)
    · exact R1.dis j k y z b p1 p2 r1 r2
theorem avS_own {y : D} {b : Addr} (h : ρ[i]? = some (some (.own x))) : avS g (ρ.set i (some (.own y))) σ b ↔ avS g ρ σ b := by
  have hl : i < ρ.length := (List.getElem?_eq_some_iff.mp h).1
  constructor
  · rintro (z | ⟨j, u, h1, h2⟩)
    · exact .inl z
    · rcases get_setS h1 with ⟨e, _, _⟩ | ⟨n, h1⟩ | ⟨n, h1⟩
      · subst e; exact .inr ⟨j, x, h, h2⟩
      · exact .inr ⟨j, u, h1, h2⟩
      · exact .inr ⟨j, u, h1, h2⟩
  · rintro (z | ⟨j, u, h1, h2⟩)
    · exact .inl z
    · by_cases e : j = i
      · subst e; exact .inr ⟨j, y, List.getElem?_set_self hl, h2⟩
      · exact .inr ⟨j, u, by rw [get_setN e]; exact h1, h2⟩
/-- an own thing is changed -/
theorem Rel.write {y : D} {o' : HO} (R : Rel K g H0 ρ σ H) (h : ρ[i]? = some (some (.own x))) (hv : σ[i]? = some (some (.ref a))) (o : OwnAt K (upd H a o') (avS g ρ σ) y a) : Rel K g H0 (ρ.set i (some (.own y))) σ (upd H a o') := by
  obtain ⟨a', k1, k2, k3, k4⟩ := R.own i x h
  rw [hv] at k1
  cases k1
  obtain ⟨o1, k5, k6⟩ := k4.there
  have hl : i < ρ.length := (List.getElem?_eq_some_iff.mp h).1
  have ea : Ext (fun b => b = a) H (upd H a o') := ⟨fun b u q n _ => by rw [upd_ne n]; exact q, nt_upd o.nt⟩
  have ina : avS g ρ σ a := .inr ⟨i, x, h, hv⟩
  have hc : ∀ b, b = a → avS g ρ σ b := fun b e => by rw [e]; exact ina
  refine ⟨R.ok.upd k5 k6 k2, ?_, R.gch, by rw [List.length_set]; exact R.len, fun b q => ea.there b (R.avt b q), fun j u q => ?_, fun j u q => ?_, fun j k u w b h1 h2 h3 h4 => ?_⟩
  · refine ⟨fun b u q n t => ?_, fun b q => ea.there b (R.ext.there b q)⟩
    by_cases e : b = a
    · subst e
      rcases k3 with k3 | k3
      · exact absurd ⟨u, q, t⟩ k3
      · exact absurd k3 n
    · rw [upd_ne e]; exact R.ext.keep b u q n t
  · rcases get_setS q with ⟨_, _, e⟩ | ⟨n, q⟩ | ⟨n, q⟩
    · cases e
    all_goals
      obtain ⟨w, q1, q2⟩ := R.dat j u q
      exact ⟨w, q1, q2.mono ea hc fun b _ z => (avS_own h).mp z⟩
  · rcases get_setS q with ⟨e, _, e2⟩ | ⟨n, q⟩ | ⟨n, q⟩
    · cases e2
      subst e
      exact ⟨a, hv, k2, k3, o.mono (ch := fun _ => False) Ext.refl (fun _ z => z.elim) (fun b _ z => (avS_own h).mp z) fun z => z.elim⟩
    all_goals
      obtain ⟨b, q1, q2, q3, q4⟩ := R.own j u q
      exact ⟨b, q1, q2, q3, q4.mono ea hc (fun b _ z => (avS_own h).mp z) fun z => n (R.dis j i u x a q h (by rw [← z]; exact q1) hv)⟩
  · have back : ∀ j u, (ρ.set i (some (S.own y)))[j]? = some (some (S.own u)) → ∃ u', ρ[j]? = some (some (S.own u')) := fun j u q => by
      rcases get_setS q with ⟨e, _, _⟩ | ⟨n, q⟩ | ⟨n, q⟩
      · rw [e]; exact ⟨x, h⟩
      · exact ⟨u, q⟩
      · exact ⟨u, q⟩
    obtain ⟨u', h1⟩ := back j u h1
    obtain ⟨w', h2⟩ := back k w h2
    exact R.dis j k u' w' b h1 h2 h3 h4
/-- an own thing is from here on data -/
theorem Rel.freeze (R : Rel K g H0 ρ σ H) (h : ρ[i]? = some (some (.own x))) : Rel K g H0 (ρ.set i (some (.d x))) σ H := by
  obtain ⟨a, k1, k2, k3, k4⟩ := R.own i x h
  have hl : i < ρ.length := (List.getElem?_eq_some_iff.mp h).1
  have less : ∀ b, avS g (ρ.set i (some (.d x))) σ b → avS g ρ σ b := fun b z => by
    rcases z with z | ⟨j, u, h1, h2⟩
    · exact .inl z
    · rcases get_setS h1 with ⟨_, _, e⟩ | ⟨n, h1⟩ | ⟨n, h1⟩
      · cases e
      · exact .inr ⟨j, u, h1, h2⟩
      · exact .inr ⟨j, u, h1, h2⟩
  have na : ¬ avS g (ρ.set i (some (.d x))) σ a := fun z => by
    rcases z with z | ⟨j, u, h1, h2⟩
    · exact k2 z
    · rcases get_setS h1 with ⟨_, _, e⟩ | ⟨n, h1⟩ | ⟨n, h1⟩
      · cases e
      · exact n (R.dis j i u x a h1 h h2 k1)
      · exact n (R.dis j i u x a h1 h h2 k1)
  refine ⟨R.ok, R.ext, R.gch, by rw [List.length_set]; exact R.len, R.avt, fun j u q => ?_, fun j u q => ?_, fun j k u w b h1 h2 h3 h4 => ?_⟩
  · rcases get_setS q with ⟨e, _, e2⟩ | ⟨n, q⟩ | ⟨n, q⟩
    · cases e2
      subst e
      exact ⟨_, k1, k4.rp (fun b _ z => less b z) na⟩
    all_goals
      obtain ⟨w, q1, q2⟩ := R.dat j u q
      exact ⟨w, q1, q2.less fun b _ z => less b z⟩
  · rcases get_setS q with ⟨_, _, e2⟩ | ⟨n, q⟩ | ⟨n, q⟩
    · cases e2
    all_goals
      obtain ⟨b, q1, q2, q3, q4⟩ := R.own j u q
      exact ⟨b, q1, q2, q3, q4.mono (ch := fun _ => False) Ext.refl (fun _ z => z.elim) (fun b _ z => less b z) fun z => z.elim⟩
  · rcases get_setS h1 with ⟨_, _, e⟩ | ⟨n1, h1⟩ | ⟨n1, h1⟩
    · cases e
    all_goals
      rcases get_setS h2 with ⟨_, _, e⟩ | ⟨n2, h2⟩ | ⟨n2, h2⟩
      · cases e
      all_goals exact R.dis j k u w b h1 h2 h3 h4
end

/-! ### blocks -/
def wNext : WS := fun D ρ => D.nx ρ
def wSeq (w u : WS) : WS := fun D ρ => w { D with nx := u D } ρ
def wSet (i : Nat) (we : WE) : WS := fun D ρ => we ρ (fun x => D.nx (ρ.set i (some (.d x)))) D.er
def wOwn (i : Nat) (we : WE) : WS := fun D ρ => we ρ (fun x => D.nx (ρ.set i (some (.own x)))) D.er
def wDrop (we : WE) : WS := fun D ρ => we ρ (fun _ => D.nx ρ) D.er
def wRet (we : WE) : WS := fun D ρ => we ρ (fun x => D.rt x ρ) D.er
def wRetN : WS := fun D ρ => D.rt .non ρ
def wIfS (wt : WT) (w u : WS) : WS := fun D ρ => wt ρ (fun b => match b with
  | true => w D ρ
  | false => u D ρ) D.er
/-- ghost: the own thing in slot i is from here on data -/
def frz (i : Nat) (ρ : PSt) : PSt := match ρ[i]? with
  | some (some (.own x)) => ρ.set i (some (.d x))
  | _ => ρ
def wFrz (i : Nat) (w : WS) : WS := fun D ρ => w D (frz i ρ)
def wFrzE (i : Nat) (w : WE) : WE := fun ρ Q E => w (frz i ρ) Q E
theorem Rel.frz {K : PySem.W.Frag} {g : G} {H0 : Bs} {H : Hp} {ρ : PSt} {σ : L2.St} {i : Nat} (R : Rel K g H0 ρ σ H) : Rel K g H0 (frz i ρ) σ H := by
  unfold PL.frz
  split
  · exact R.freeze (by assumption)
  · exact R
section
variable {X : Cx} {W : WX} {m : Bool} {e c : Expr} {st : Stmt} {sts more : List Stmt} {we wa wb : WE} {wt : WT} {w u : WS} {pos p : Pos}
theorem dss_nil : DSs X W [] wNext := ⟨PSs.weak pss_nil fun Dn σ H ⟨g, H0, ρ, D0, R, hw, ok⟩ => ok.nx ρ σ H hw R⟩
theorem dss_cons (h1 : DS X W st w) (h2 : DSs X W sts u) : DSs X W (st :: sts) (wSeq w u) :=
  ⟨PSs.weak (pss_cons h1.ps h2.ps) fun Dn σ H ⟨g, H0, ρ, D0, R, hw, ok⟩ => ⟨g, H0, ρ, { D0 with nx := u D0 }, R, hw, fun ρ' σ' H' h R' => ⟨g, H0, ρ', D0, R', h, ok⟩, ok.rt, ok.bk, ok.ct, ok.er⟩⟩
theorem dss_one (h1 : DS X W st w) : DSs X W [st] w := ⟨pss_one h1.ps⟩
theorem dss_frz (i : Nat) (h : DSs X W sts w) : DSs X W sts (wFrz i w) := ⟨PSs.weak h.ps fun Dn σ H ⟨g, H0, ρ, D0, R, hw, ok⟩ => ⟨g, H0, _, D0, R.frz, hw, ok⟩⟩
theorem ds_frz (i : Nat) (h : DS X W st w) : DS X W st (wFrz i w) := ⟨PS.weak h.ps fun Dn σ H ⟨g, H0, ρ, D0, R, hw, ok⟩ => ⟨g, H0, _, D0, R.frz, hw, ok⟩⟩
theorem ds_set (i : Nat) {x : Str} {pos' : Pos} (hN : X.N.Nodup) (he : DE X W true e we) (hi : X.N[i]? = some x := by rfl) (hx : Loc X.env.scope x := by first | exact Or.inl rfl | exact Or.inr rfl) (hs : swapsWith e (some (.Name x pos')) pos.line X.env = pure false := by rfl)
    (hf : X.fn x = true ∨ X.env.scope.names.lookup x = some .local := by first | exact .inl rfl | exact .inr rfl | assumption) : DS X W (.Assign [.Name x pos'] e pos) (wSet i we) :=
  ⟨PS.weak (ps_set hN hi hx he.pe hs hf) fun Dn σ H ⟨g, H0, ρ, D0, R, hw, ok⟩ => ⟨g, H0, ρ, _, D0.er, R, hw, fun x v H' h e' R' r => ok.nx _ _ _ h (R'.setD r.full), ok.ek⟩⟩
theorem ds_own (i : Nat) {x : Str} {pos' : Pos} (hN : X.N.Nodup) (he : DF X W e we) (hi : X.N[i]? = some x := by rfl) (hx : Loc X.env.scope x := by first | exact Or.inl rfl | exact Or.inr rfl) (hs : swapsWith e (some (.Name x pos')) pos.line X.env = pure false := by rfl)
    (hf : X.fn x = true ∨ X.env.scope.names.lookup x = some .local := by first | exact .inl rfl | exact .inr rfl | assumption) : DS X W (.Assign [.Name x pos'] e pos) (wOwn i we) :=
  ⟨PS.weak (ps_set hN hi hx he.pe hs hf) fun Dn σ H ⟨g, H0, ρ, D0, R, hw, ok⟩ => ⟨g, H0, ρ, _, D0.er, R, hw, fun x a H' h e' R' n o => ok.nx _ _ _ h (R.setO R' e' n o), ok.ek⟩⟩
theorem ds_expr (he : DE X W m e we) (hs : swapsWith e none pos.line X.env = pure false := by rfl) : DS X W (.Expr e pos) (wDrop we) :=
  ⟨PS.weak (ps_expr he.pe hs) fun Dn σ H ⟨g, H0, ρ, D0, R, hw, ok⟩ => ⟨g, H0, ρ, _, D0.er, R, hw, fun x v H' h e' R' r => ok.nx _ _ _ h R', ok.ek⟩⟩
theorem ds_ret (he : DE X W true e we) : DS X W (.Return (some e) pos) (wRet we) :=
  ⟨PS.weak (ps_ret he.pe) fun Dn σ H ⟨g, H0, ρ, D0, R, hw, ok⟩ => ⟨g, H0, ρ, _, D0.er, R, hw, fun x v H' h e' R' r => ok.rt x ρ σ v H' h R' r.full, ok.ek⟩⟩
/-- return of an own thing -/
theorem ds_retO (i : Nat) (he : DE X W true e we) : DS X W (.Return (some e) pos) (wFrz i (wRet we)) := ds_frz i (ds_ret he)
theorem ds_retN : DS X W (.Return none pos) wRetN := ⟨PS.weak ps_retN fun Dn σ H ⟨g, H0, ρ, D0, R, hw, ok⟩ => ok.rt .non ρ σ .non H hw R .non⟩
theorem ds_pass : DS X W (.Pass pos) wNext := ⟨PS.weak ps_pass fun Dn σ H ⟨g, H0, ρ, D0, R, hw, ok⟩ => ok.nx ρ σ H hw R⟩
theorem ds_break : DS X W (.Break pos) (fun D ρ => D.bk ρ) := ⟨PS.weak ps_break fun Dn σ H ⟨g, H0, ρ, D0, R, hw, ok⟩ => ok.bk ρ σ H hw R⟩
theorem ds_continue : DS X W (.Continue pos) (fun D ρ => D.ct ρ) := ⟨PS.weak ps_continue fun Dn σ H ⟨g, H0, ρ, D0, R, hw, ok⟩ => ok.ct ρ σ H hw R⟩
theorem ds_if (hc : DT X W c wt) (ha : DSs X W sts w) (hb : DSs X W more u) : DS X W (.If c sts more pos) (wIfS wt w u) :=
  ⟨PS.weak (ps_if hc.pt ha.ps hb.ps) fun Dn σ H ⟨g, H0, ρ, D0, R, hw, ok⟩ => ⟨g, H0, ρ, _, D0.er, R, hw, fun b H' h e' R' => by
    cases b with
    | true => exact ⟨g, H0, ρ, D0, R', h, ok⟩
    | false => exact ⟨g, H0, ρ, D0, R', h, ok⟩, ok.ek⟩⟩

/-! ### while -/
def wWhile (wt : WT) (wb : WS) : WS := fun D ρ => ∃ I : Nat → PSt → Prop, (∃ n, I n ρ) ∧ ∀ n ρ, I n ρ → wt ρ (fun b => match b with
  | true => wb { D with nx := fun ρ' => ∃ n', n' < n ∧ I n' ρ', ct := fun ρ' => ∃ n', n' < n ∧ I n' ρ', bk := D.nx } ρ
  | false => D.nx ρ) D.er
theorem ds_while (hp : PassesOwn (model X.prog X.w) X.A X.env X.xe) (hc : DT X W c wt) (hb : DSs X W sts w) : DS X W (.While c sts [] pos) (wWhile wt w) :=
  ⟨PS.weak (ps_while hp hc.pt hb.ps) fun Dn σ H ⟨g, H0, ρ, D0, R, ⟨I, ⟨n0, i0⟩, hw⟩, ok⟩ =>
    ⟨fun n σ H => ∃ ρ, Rel X.K g H0 ρ σ H ∧ I n ρ, ⟨n0, ρ, R, i0⟩, fun n σ H ⟨ρ, R, i⟩ => ⟨g, H0, ρ, _, D0.er, R, hw n ρ i, fun b H1 h e1 R1 => by
      cases b with
      | false => exact ok.nx ρ σ H1 h R1
      | true =>
        rw [if_pos rfl]
        have nx : ∀ ρ' σ' H', (∃ n', n' < n ∧ I n' ρ') → Rel X.K g H0 ρ' σ' H' → ∃ m', m' < n ∧ ∃ ρ, Rel X.K g H0 ρ σ' H' ∧ I m' ρ := fun ρ' σ' H' ⟨n', h1, h2⟩ R' => ⟨n', h1, ρ', R', h2⟩
        exact ⟨fun σ' H' => ∃ m', m' < n ∧ ∃ ρ, Rel X.K g H0 ρ σ' H' ∧ I m' ρ, fun _ _ q => q, g, H0, ρ, _, R1, h, ⟨nx, ok.rt, ok.nx, nx, ok.er⟩⟩, ok.ek⟩⟩⟩
end
end PL
end
section
set_option Elab.async false
set_option linter.all false
set_option maxRecDepth 100000
set_option maxHeartbeats 4000000
/-! The plain layer, 5: calls and defs; targets, walks, loops, comprehensions. -/
namespace PL
open PySem PySem.Spec PyProof.Rows L2
variable [TabList]

/-! ### what a def is worth -/
abbrev SPEC := List D → (D → Prop) → (Err → Prop) → Prop
def toSp (K : PySem.W.Frag) (spec : SPEC) : Sp := fun vs H Q E => ∃ (g : G) (xs : List D) (Q0 : D → Prop) (E0 : Err → Prop), g.ok H ∧ (∀ a, g.av a → NT H a) ∧ Rps K H g.av xs vs ∧ spec xs Q0 E0 ∧
  (∀ x v H', Q0 x → Ext g.ch H H' → g.ok H' → Rp K H' g.av x v → Q v H') ∧ (∀ er cls d H', E0 er → Ext g.ch H H' → g.ok H' → ErrIs K H' g.av er cls d → E cls d H')
/-- the ghost of a callee -/
def G.at (g : G) (ρ : PSt) (σ : L2.St) : G := { g with av := avS g ρ σ, hav := fun h c e => ⟨.inl (g.hav h c e).1, .inl (g.hav h c e).2⟩ }
def wCall (spec : SPEC) (ws : WA) : WE := fun ρ Q E => ws ρ (fun xs => spec xs Q E) E
theorem toSp_of {K : PySem.W.Frag} {spec : SPEC} {g : G} {H0 : Bs} {ρ : PSt} {σ : L2.St} {H : Hp} {xs : List D} {vs : List V} {Q0 : D → Prop} {E0 : Err → Prop} {Q : VK} {E : XK} (R : Rel K g H0 ρ σ H) (r : Rps K H (avS g ρ σ) xs vs) (h : spec xs Q0 E0)
    (hq : ∀ x v H', Q0 x → Ext g.ch H H' → Rel K g H0 ρ σ H' → Rp K H' (avS g ρ σ) x v → Q v H') (he : ∀ er cls d H', E0 er → Ext g.ch H H' → Rel K g H0 ρ σ H' → ErrIs K H' (avS g ρ σ) er cls d → E cls d H') : toSp K spec vs H Q E :=
  ⟨g.at ρ σ, xs, Q0, E0, R.ok, fun a h => R.avS_there h, r, h, fun x v H' q e ok r => hq x v H' q e (R.step e ok) r, fun er cls d H' q e ok ei => he er cls d H' q e (R.step e ok) ei⟩
section
variable {X : Cx} {W : WX} {m : Bool} {k : Nat} {f : Addr} {fd : FuncData} {ps : List Str} {spec : SPEC} {x : Str} {p pos : Pos} {e : Expr} {es : List Expr} {ws : WA}
theorem de_call (F : FnOk X.prog X.w X.K X.mg X.base (L2.CX X.prog X.w) k f fd ps (toSp X.K spec)) (hr : Room k X.A) (hm : X.mg x = some (.ref f)) (hk : PySem.W.keepIn X.K (.ref f) = true) (hb : Binds X.K fd ps []) (tk : Takes X W) (ha : DA X W true (e :: es) ws) (hg : Gl X x := by rfl) (hdb : (x == ("__debug__" : Str)) = false := by decide)
    (he : starEach (e :: es) X.env = (false, eval e X.env) :: starEach es X.env := by rfl) (hpl : (backTo pos (starEach es X.env)).any (·.1) = false := by rfl) : DE X W m (.Call (.Name x p) (e :: es) [] pos) (wCall spec ws) :=
  ⟨PE.weak (pe_callSD F hr hg hm hk hb .nil (fun σ => passAt tk σ) ha.pa hdb he hpl) fun σ H Q ⟨g, H0, ρ, Q0, E0, R, hw, hq, he⟩ => ⟨g, H0, ρ, _, E0, R, hw, fun xs vs H1 h1 e1 R1 r1 => by
    show toSp X.K spec (vs ++ []) H1 Q (L2.WE W σ)
    rw [List.append_nil]
    exact toSp_of R1 r1.full h1 (fun x v H' q e R' r => hq x v H' q (e1.trans e) R' (.inl r)) (fun er cls d H' q e R' ei => he er cls d H' q (e1.trans e) R' ei), he⟩⟩
end
def startP (N : List Str) (xs : List D) : PSt := xs.map (fun x => some (S.d x)) ++ List.replicate (N.length - xs.length) none
theorem avS_start {g : G} {N : List Str} {xs : List D} {σ : L2.St} {a : Addr} (h : avS g (startP N xs) σ a) : g.av a := by
  rcases h with h | ⟨i, x, h1, _⟩
  · exact h
  · unfold startP at h1
    by_cases hi : i < xs.length
    · rw [List.getElem?_append_left (by simpa using hi), List.getElem?_map] at h1
      cases e : xs[i]? with
      | none => rw [e] at h1; cases h1
      | some y => rw [e] at h1; cases h1
    · rw [List.getElem?_append_right (by simpa using hi), List.getElem?_replicate] at h1
      split at h1 <;> cases h1
theorem rel_start {K : PySem.W.Frag} {g : G} {N : List Str} {xs : List D} {vs : List V} {H : Hp} (ok : g.ok H) (hav : ∀ a, g.av a → NT H a) (r : Rps K H g.av xs vs) : Rel K g ⟨H, g.ch⟩ (startP N xs) (L2.start N vs) H where
  ok := ok
  ext := Ext.refl
  gch := fun _ h => h
  len := by unfold startP L2.start; simp [r.length]
  avt := hav
  dat := fun i x h => by
    have hi : i < xs.length := by
      unfold startP at h
      by_cases hi : i < xs.length
      · exact hi
      · rw [List.getElem?_append_right (by simpa using hi), List.getElem?_replicate] at h
        split at h <;> cases h
    have hx : xs[i]? = some x := by
      unfold startP at h
      rw [List.getElem?_append_left (by simpa using hi), List.getElem?_map] at h
      cases e : xs[i]? with
      | none => rw [e] at h; cases h
      | some y => rw [e] at h; cases h; rfl
    obtain ⟨v, h1, h2⟩ := r.get hx
    refine ⟨v, ?_, h2.less fun _ _ z => avS_start z⟩
    unfold L2.start
    rw [List.getElem?_append_left (by rw [List.length_map, ← r.length]; exact hi), List.getElem?_map, h1]
    rfl
  own := fun i x h => absurd h (by
    intro h
    unfold startP at h
    by_cases hi : i < xs.length
    · rw [List.getElem?_append_left (by simpa using hi), List.getElem?_map] at h
      cases e : xs[i]? with
      | none => rw [e] at h; cases h
      | some y => rw [e] at h; cases h
    · rw [List.getElem?_append_right (by simpa using hi), List.getElem?_replicate] at h
      split at h <;> cases h)
  dis := fun i j x y a h => absurd h (by
    intro h
    unfold startP at h
    by_cases hi : i < xs.length
    · rw [List.getElem?_append_left (by simpa using hi), List.getElem?_map] at h
      cases e : xs[i]? with
      | none => rw [e] at h; cases h
      | some y => rw [e] at h; cases h
    · rw [List.getElem?_append_right (by simpa using hi), List.getElem?_replicate] at h
      split at h <;> cases h)
/-- a def by its body's reading on data -/
theorem fnP {P : Program} {w0 : World} {K : PySem.W.Frag} {mg : Str → Option Value} {base : Heap} {x qual : Str} {st : Stmt} {f : Addr} {fd : FuncData} {N ps : List Str} {k : Nat} {spec : SPEC} {w : WS} (F : Fun K x qual st f fd) (S : FnScope N ps (defScope st)) (len : ∀ xs Q E, spec xs Q E → xs.length = ps.length)
    (hbody : ∀ (cdv : Value) (A : Around) (outer : List Env) (s : Shared) (H : Hp) (E : XK), Room k (A.deeper (envOfC qual (defScope st) s.heap.objs.size f cdv)) → DSs (cxOf (L2.CX P w0) P w0 K mg base N qual (defScope st) f cdv A outer s H E) (fun cls d _ H => E cls d H) (defBody st) w)
    (pure : ∀ xs Q E, spec xs Q E → w ⟨fun _ => Q .non, fun d _ => Q d, fun _ => False, fun _ => False, E⟩ (startP N xs)) : FnOk P w0 K mg base (L2.CX P w0) (k + 1) f fd ps (toSp K spec) := by
  refine F.okX S (fun vs H Q E ⟨g, xs, Q0, E0, ok, hav, r, h, hq, he⟩ => by rw [← r.length]; exact len _ _ _ h) (fun cdv A outer s H vs Q E hr ⟨g, xs, Q0, E0, ok, hav, r, h, hq, he⟩ => ⟨_, (hbody cdv A outer s H E hr).ps, ?_⟩)
  refine ⟨g, ⟨H, g.ch⟩, startP N xs, _, rel_start ok hav r, pure xs Q0 E0 h, ⟨fun ρ σ H' q R => ?_, fun x ρ σ v H' q R rp => ?_, fun _ _ _ z => z.elim, fun _ _ _ z => z.elim, fun er cls d ρ σ H' q R ei => ?_⟩⟩
  · exact hq .non .non H' q R.ext R.ok .non
  · exact hq x v H' q R.ext R.ok (rp.less fun _ _ z => .inl z)
  · exact he er cls d H' q R.ext R.ok (ei.less fun _ _ z => .inl z)

/-! ### targets -/
abbrev PTg := D → PSt → Option PSt
/-- f tells the slots behind; the slots is, and no others, are set to data -/
def TgOk (K : PySem.W.Frag) (t : TG) (f : PTg) (is : List Nat) : Prop := ∀ (g : G) (H0 : Bs) (ρ ρ' : PSt) (σ : L2.St) (H : Hp) (x : D) (v : V) (Q : L2.St → Hp → Prop), Rel K g H0 ρ σ H → Rp K H (avS g ρ σ) x v → f x ρ = some ρ' →
  (∀ σ', Rel K g H0 ρ' σ' H → (∀ a, avS g ρ' σ' a → avS g ρ σ a) → (∀ i, i ∉ is → ρ'[i]? = ρ[i]? ∧ σ'[i]? = σ[i]?) → (∀ i x, i ∈ is → ρ'[i]? = some (some (S.own x)) → ρ[i]? = some (some (S.own x))) → σ'.length = σ.length → Q σ' H) → t v σ H Q
def TgsOk (K : PySem.W.Frag) (t : TGs) (f : List D → PSt → Option PSt) (is : List Nat) : Prop := ∀ (g : G) (H0 : Bs) (ρ ρ' : PSt) (σ : L2.St) (H : Hp) (xs : List D) (vs : List V) (Q : L2.St → Hp → Prop), Rel K g H0 ρ σ H → Rps K H (avS g ρ σ) xs vs → f xs ρ = some ρ' →
  (∀ σ', Rel K g H0 ρ' σ' H → (∀ a, avS g ρ' σ' a → avS g ρ σ a) → (∀ i, i ∉ is → ρ'[i]? = ρ[i]? ∧ σ'[i]? = σ[i]?) → (∀ i x, i ∈ is → ρ'[i]? = some (some (S.own x)) → ρ[i]? = some (some (S.own x))) → σ'.length = σ.length → Q σ' H) → t vs σ H Q
structure DG (X : Cx) (tg : Expr) (t : TG) (f : PTg) (is : List Nat) : Prop where
  pg : PG X tg t
  ok : TgOk X.K t f is
structure DGs (X : Cx) (tgs : List Expr) (t : TGs) (f : List D → PSt → Option PSt) (is : List Nat) : Prop where
  pg : PGs X tgs t
  ok : TgsOk X.K t f is
def gN (i : Nat) : PTg := fun x ρ => some (ρ.set i (some (.d x)))
def gsNil : List D → PSt → Option PSt := fun xs ρ => match xs with
  | [] => some ρ
  | _ :: _ => none
def gsCons (f : PTg) (fs : List D → PSt → Option PSt) : List D → PSt → Option PSt := fun xs ρ => match xs with
  | [] => none
  | x :: xs => match f x ρ with
    | some ρ' => fs xs ρ'
    | none => none
/-- a, b = a tuple -/
def gT (n : Nat) (fs : List D → PSt → Option PSt) : PTg := fun x ρ => match x with
  | .tup xs => if xs.length = n then fs xs ρ else none
  | _ => none
section
variable {X : Cx} {tg : Expr} {tgs : List Expr} {t : TG} {u : TGs} {f : PTg} {fs : List D → PSt → Option PSt} {is js : List Nat} {pos : Pos}
theorem dg_name (i : Nat) {x : Str} (hN : X.N.Nodup) (hi : X.N[i]? = some x := by rfl) (hx : Loc X.env.scope x := by first | exact Or.inl rfl | exact Or.inr rfl) (hf : X.fn x = true ∨ X.env.scope.names.lookup x = some .local := by first | exact .inl rfl | exact .inr rfl | assumption) : DG X (.Name x pos) (gName i) (gN i) [i] :=
  ⟨pg_name hN hi hx hf, fun g H0 ρ ρ' σ H x v Q R r e k => by
    unfold gN at e
    cases e
    refine k _ (R.setD r) (fun a z => avS_setD R.len z) (fun j hj => ?_) (fun j y hj q => ?_) (by rw [List.length_set])
    · have n : j ≠ i := fun z => hj (by rw [z]; exact List.mem_singleton.mpr rfl)
      exact ⟨get_setN n, get_setN n⟩
    · rcases get_setS q with ⟨_, _, e⟩ | ⟨n, q⟩ | ⟨n, q⟩
      · cases e
      · exact q
      · exact q⟩
theorem dgs_nil : DGs X [] gNil gsNil [] := ⟨pgs_nil, fun g H0 ρ ρ' σ H xs vs Q R r e k => by
  unfold gsNil at e
  split at e
  · cases e
    cases r
    exact ⟨rfl, k σ R (fun _ z => z) (fun _ _ => ⟨rfl, rfl⟩) (fun _ _ _ z => z) rfl⟩
  · cases e⟩
theorem dgs_cons (h1 : DG X tg t f is) (h2 : DGs X tgs u fs js) (hs : (assignEach (tg :: tgs) X.env).map (·.2) = assign tg X.env :: (assignEach tgs X.env).map (·.2) := by rfl) : DGs X (tg :: tgs) (gCons t u) (gsCons f fs) (is ++ js) := by
  obtain ⟨p, h⟩ := h1
  obtain ⟨p2, h2⟩ := h2
  refine ⟨pgs_cons p p2 hs, fun g H0 ρ ρ' σ H xs vs Q R r e k => ?_⟩
  unfold gsCons at e
  split at e
  · cases e
  · rename_i x xs
    split at e
    · rename_i ρ1 e1
      cases r with
      | cons r1 r2 =>
        refine ⟨_, _, rfl, h g H0 ρ ρ1 σ H x _ _ R r1 e1 fun σ1 R1 a1 n1 o1 l1 => ?_⟩
        refine h2 g H0 ρ1 ρ' σ1 H xs _ _ R1 (r2.less fun a _ z => a1 a z) e fun σ2 R2 a2 n2 o2 l2 => ?_
        refine k σ2 R2 (fun a z => a1 a (a2 a z)) (fun i hi => ?_) (fun i y hi q => ?_) (l2.trans l1)
        · have m1 := n1 i fun z => hi (List.mem_append_left _ z)
          have m2 := n2 i fun z => hi (List.mem_append_right _ z)
          exact ⟨m2.1.trans m1.1, m2.2.trans m1.2⟩
        · have q1 : ρ1[i]? = some (some (S.own y)) := by
            by_cases hj : i ∈ js
            · exact o2 i y hj q
            · rw [← (n2 i hj).1]; exact q
          by_cases hj : i ∈ is
          · exact o1 i y hj q1
          · rw [← (n1 i hj).1]; exact q1
    · cases e
theorem dg_tup {k : Nat} {n : Nat} (h : DGs X tgs u fs is) (hc : X.calm = true := by rfl) (hn : (assignEach tgs X.env).length = n := by rfl) (hst : (assignEach tgs X.env).findIdx? (·.1) = none := by rfl) : DG X (.Tuple tgs k pos) (gTup X.K n u) (gT n fs) is := by
  obtain ⟨p, h⟩ := h
  refine ⟨pg_tup hc p hn hst, fun g H0 ρ ρ' σ H x v Q R r e q => ?_⟩
  unfold gT at e
  split at e
  · split at e
    · rename_i hl
      cases r with
      | tup r1 r2 => exact ⟨_, _, rfl, r1.sq, by rw [← r2.length]; exact hl, h g H0 ρ ρ' σ H _ _ Q R r2 e q⟩
    · cases e
  · cases e
end

/-! ### what is walked -/
/-- the iterator J, from H1 on, brings the things xs -/
def Walks (K : PySem.W.Frag) (av : Addr → Prop) (J : It) (H1 : Hp) (xs : List D) : Prop := ∀ (H : Hp) (av' : Addr → Prop), Ext av H1 H → (∀ a, av' a → av a ∨ ¬ NT H1 a) → (∀ a, av' a → NT H a) → ∀ i,
  (i < xs.length → J.go i H ∧ ∀ x H', J.yld i H x H' → Evl.Ex H H' ∧ ∃ d, xs[i]? = some d ∧ Rp K H' av' d x) ∧ (xs.length ≤ i → J.stop i H)
def upI (K : PySem.W.Frag) (ws : WA) (W : WX) : TI := fun σ H R => ∃ (g : G) (H0 : Bs) (ρ : PSt) (Q0 : List D → Prop) (E0 : Err → Prop), Rel K g H0 ρ σ H ∧ ws ρ Q0 E0 ∧
  (∀ xs J H1, Q0 xs → Ext g.ch H H1 → Rel K g H0 ρ σ H1 → Walks K (avS g ρ σ) J H1 xs → R J H1) ∧ ErrK K g H0 ρ σ H W E0
structure DI (X : Cx) (W : WX) (tg iter : Expr) (ws : WA) : Prop where
  pi : PI X tg iter (upI X.K ws W)
theorem PI.weak {X : Cx} {tg e : Expr} {t t' : TI} (h : PI X tg e t) (k : ∀ σ H R, t' σ H R → t σ H R) : PI X tg e t' := ⟨fun pins s σ H R I q => h.run pins s σ H R I (k σ H R q)⟩
section
variable {K : PySem.W.Frag} {H1 : Hp} {av : Addr → Prop} {xs : List D} {vs : List V} {a : Addr}
theorem walks_list (h : H1 a = some (.lst vs)) (n : ¬ av a) (r : Rps K H1 av xs vs) (hav : ∀ b, av b → NT H1 b) : Walks K av (Itl K a) H1 xs := fun H av' e h1 h2 i => by
  have hs : SqL K H a vs := .inl (.inl (e.keep a _ h n fun _ z => by cases z))
  refine ⟨fun hi => ⟨?_, fun x H' ⟨e1, y⟩ => ?_⟩, fun hi => ⟨vs, hs, by rw [← r.length]; exact hi⟩⟩
  · obtain ⟨v, hv, _⟩ := r.get (List.getElem?_eq_getElem hi)
    exact ⟨vs, v, hs, hv⟩
  · rw [e1]
    obtain ⟨d, k1, k2⟩ := r.get' (y vs hs)
    exact ⟨Evl.Ex.refl H, d, k1, k2.mono e (fun _ z => z) fun b hb z => (h1 b z).elim id fun q => absurd hb q⟩
theorem TupAt.keep {H : Hp} {ch : Addr → Prop} (h : TupAt K H1 av a vs) (e : Ext ch H1 H) (hc : ∀ b, ch b → av b) : SqT K H a vs := (h.mono (av' := fun _ => False) e hc fun _ _ z => z.elim).sq
theorem walks_tup (h : TupAt K H1 av a vs) (r : Rps K H1 av xs vs) : Walks K av (Itt K a) H1 xs := fun H av' e h1 h2 i => by
  have hs : SqT K H a vs := h.keep e fun _ z => z
  refine ⟨fun hi => ⟨?_, fun x H' ⟨e1, y⟩ => ?_⟩, fun hi => ⟨vs, hs, by rw [← r.length]; exact hi⟩⟩
  · obtain ⟨v, hv, _⟩ := r.get (List.getElem?_eq_getElem hi)
    exact ⟨vs, v, hs, hv⟩
  · rw [e1]
    obtain ⟨d, k1, k2⟩ := r.get' (y vs hs)
    exact ⟨Evl.Ex.refl H, d, k1, k2.mono e (fun _ z => z) fun b hb z => (h1 b z).elim id fun q => absurd hb q⟩
end
/-- lo, lo + 1, .. -/
def rng (lo hi : Int) : List D := (List.range (hi - lo).toNat).map fun (i : Nat) => D.int (lo + (i : Int))
theorem rng_get {lo hi : Int} {i : Nat} (h : i < (hi - lo).toNat) : (rng lo hi)[i]? = some (.int (lo + (i : Int))) := by
  unfold rng
  rw [List.getElem?_map, List.getElem?_range h]
  rfl
theorem rng_length (lo hi : Int) : (rng lo hi).length = (hi - lo).toNat := by unfold rng; simp
theorem walks_range {K : PySem.W.Frag} {H1 : Hp} {av : Addr → Prop} {lo hi : Int} : Walks K av (Itr lo (hi - lo).toNat) H1 (rng lo hi) := fun H av' e h1 h2 i => by
  rw [rng_length]
  exact ⟨fun hi => ⟨hi, fun x H' ⟨e1, y⟩ => by
    rw [e1]
    exact ⟨Evl.Ex.refl H, _, rng_get hi, by rw [y]; exact .int _⟩⟩, fun hi => hi⟩
/-- two lists, or two tuples, side by side -/
def zipD (xs ys : List D) : List D := (xs.zip ys).map fun p => D.tup [p.1, p.2]
theorem zipD_length (xs ys : List D) : (zipD xs ys).length = min xs.length ys.length := by unfold zipD; simp
theorem zipD_get {xs ys : List D} {i : Nat} {x y : D} (h1 : xs[i]? = some x) (h2 : ys[i]? = some y) : (zipD xs ys)[i]? = some (.tup [x, y]) := by
  unfold zipD
  have e : (xs.zip ys)[i]? = some (x, y) := List.getElem?_zip_eq_some.mpr ⟨h1, h2⟩
  rw [List.getElem?_map, e]
  rfl
theorem rp_pair {K : PySem.W.Frag} {H : Hp} {av : Addr → Prop} {x y : D} {v u : V} {T : Addr} (hT : H T = none) (hav : ∀ b, av b → NT H b) (r1 : Rp K H av x v) (r2 : Rp K H av y u) : Rp K (upd H T (.tup [v, u])) av (.tup [x, y]) (.ref T) := by
  refine .tup (.inl ⟨.inl upd_same, fun z => nnt hT (hav T z)⟩) (.cons ?_ (.cons ?_ .nil))
  · exact r1.mono (ch := fun _ => False) (Ext.new hT) (fun _ z => z.elim) fun _ _ z => z
  · exact r2.mono (ch := fun _ => False) (Ext.new hT) (fun _ z => z.elim) fun _ _ z => z
theorem walks_zip {K : PySem.W.Frag} {H1 : Hp} {av : Addr → Prop} {xs ys : List D} {vs us : List V} {a b : Addr} (h : H1 a = some (.lst vs)) (n : ¬ av a) (r : Rps K H1 av xs vs) (h' : H1 b = some (.lst us)) (n' : ¬ av b) (r' : Rps K H1 av ys us) : Walks K av (Itz K a b) H1 (zipD xs ys) := fun H av' e h1 h2 i => by
  have hs : SqL K H a vs := .inl (.inl (e.keep a _ h n fun _ z => by cases z))
  have hs' : SqL K H b us := .inl (.inl (e.keep b _ h' n' fun _ z => by cases z))
  rw [zipD_length]
  refine ⟨fun hi => ⟨?_, fun x H' ⟨T, v, u, e1, hT, e2, y1, y2⟩ => ?_⟩, fun hi => ⟨vs, us, hs, hs', by rw [← r.length, ← r'.length]; omega⟩⟩
  · obtain ⟨v, hv, _⟩ := r.get (List.getElem?_eq_getElem (show i < xs.length by omega))
    obtain ⟨u, hu, _⟩ := r'.get (List.getElem?_eq_getElem (show i < ys.length by omega))
    exact ⟨vs, us, v, u, hs, hs', hv, hu⟩
  · obtain ⟨d, k1, k2⟩ := r.get' (y1 vs hs)
    obtain ⟨d', k1', k2'⟩ := r'.get' (y2 us hs')
    rw [e1, e2]
    exact ⟨Evl.Ex.new hT, _, zipD_get k1 k1', rp_pair hT h2 (k2.mono e (fun _ z => z) fun b hb z => (h1 b z).elim id fun q => absurd hb q) (k2'.mono e (fun _ z => z) fun b hb z => (h1 b z).elim id fun q => absurd hb q)⟩
theorem walks_zipT {K : PySem.W.Frag} {H1 : Hp} {av : Addr → Prop} {xs ys : List D} {vs us : List V} {a b : Addr} (h : TupAt K H1 av a vs) (r : Rps K H1 av xs vs) (h' : TupAt K H1 av b us) (r' : Rps K H1 av ys us) : Walks K av (RZ.ItzT K a b) H1 (zipD xs ys) := fun H av' e h1 h2 i => by
  have hs : SqT K H a vs := h.keep e fun _ z => z
  have hs' : SqT K H b us := h'.keep e fun _ z => z
  rw [zipD_length]
  refine ⟨fun hi => ⟨?_, fun x H' ⟨T, v, u, e1, hT, e2, y1, y2⟩ => ?_⟩, fun hi => ⟨vs, us, hs, hs', by rw [← r.length, ← r'.length]; omega⟩⟩
  · obtain ⟨v, hv, _⟩ := r.get (List.getElem?_eq_getElem (show i < xs.length by omega))
    obtain ⟨u, hu, _⟩ := r'.get (List.getElem?_eq_getElem (show i < ys.length by omega))
    exact ⟨vs, us, v, u, hs, hs', hv, hu⟩
  · obtain ⟨d, k1, k2⟩ := r.get' (y1 vs hs)
    obtain ⟨d', k1', k2'⟩ := r'.get' (y2 us hs')
    rw [e1, e2]
    exact ⟨Evl.Ex.new hT, _, zipD_get k1 k1', rp_pair hT h2 (k2.mono e (fun _ z => z) fun b hb z => (h1 b z).elim id fun q => absurd hb q) (k2'.mono e (fun _ z => z) fun b hb z => (h1 b z).elim id fun q => absurd hb q)⟩
section
variable {X : Cx} {W : WX} {m : Bool} {tg e e2 l : Expr} {es : List Expr} {we : WE} {ws : WA} {p pos : Pos}
/-- a list or a tuple is walked -/
theorem pi_both {tl : TE} (hl : PE X l tl) : PI X tg l (fun σ H R => tl σ H fun x H1 => ∃ a, x = .ref a ∧ (((∃ xs, SqL X.K H1 a xs) ∧ R (Itl X.K a) H1) ∨ ((∃ xs, SqT X.K H1 a xs) ∧ R (Itt X.K a) H1))) := by
  refine ⟨fun pins s σ H R I h => ?_⟩
  refine thn (hl.run pins s σ H _ I h) fun v s1 ⟨x, H1, I1, r1, q1⟩ => ?_
  obtain ⟨a, e, ⟨⟨xs, hq⟩, q⟩ | ⟨⟨xs, hq⟩, q⟩⟩ := q1
  · subst e
    cases r1
    obtain ⟨its, rv, p, hz⟩ := I1.list hq
    refine wpAny_pyIter_list p.isList ?_
    refine ⟨s1.heap.objs.size, [s1.heap.objs.size], _, _, H1, rfl, I1.kept (t' := s1.toks) fun b o e => Heap.get?_push_of_some _ e, turn_list a _, ⟨_, Heap.get?_push_size _ rfl, rfl, rfl⟩, fun b hb => ?_, q⟩
    have e : b = s1.heap.objs.size := by simpa using hb
    subst e
    exact I1.fpOk (Nat.le_refl _) (I1.hok.fresh (Nat.le_refl _))
  · subst e
    cases r1
    obtain ⟨its, rv, p, hz⟩ := I1.tuple hq
    refine wpAny_pyIter_tuple (show s1.heap.IsTuple a its.toArray from p) ?_
    refine ⟨s1.heap.objs.size, [s1.heap.objs.size], _, _, H1, rfl, I1.kept (t' := s1.toks) fun b o e => Heap.get?_push_of_some _ e, turn_tuple a _, ⟨_, Heap.get?_push_size _ rfl, rfl, rfl⟩, fun b hb => ?_, q⟩
    have e : b = s1.heap.objs.size := by simpa using hb
    subst e
    exact I1.fpOk (Nat.le_refl _) (I1.hok.fresh (Nat.le_refl _))
def wItems (we : WE) : WA := fun ρ Q E => we ρ (fun x => match x with
  | .lst xs => Q xs
  | .tup xs => Q xs
  | _ => False) E
theorem di_seq (h : DE X W true l we) : DI X W tg l (wItems we) := ⟨PI.weak (pi_both h.pe) fun σ H R ⟨g, H0, ρ, Q0, E0, Rl, hw, hq, he⟩ => ⟨g, H0, ρ, _, E0, Rl, hw, fun x v H1 h1 e1 R1 r1 => by
  split at h1
  · cases r1.full with
    | lst hl n r => exact ⟨_, rfl, .inl ⟨⟨_, .inl (.inl hl)⟩, hq _ _ H1 h1 e1 R1 (walks_list hl n r fun b z => R1.avS_there z)⟩⟩
  · cases r1.full with
    | tup hl r => exact ⟨_, rfl, .inr ⟨⟨_, hl.sq⟩, hq _ _ H1 h1 e1 R1 (walks_tup hl r)⟩⟩
  · exact h1.elim, he⟩⟩
def wRng1 (ws : WA) : WA := fun ρ Q E => ws ρ (fun xs => match xs with
  | [.int j] => -(2 ^ 62) ≤ j ∧ j < 2 ^ 62 ∧ Q (rng 0 j)
  | _ => False) E
def wRng2 (ws : WA) : WA := fun ρ Q E => ws ρ (fun xs => match xs with
  | [.int i, .int j] => (-(2 ^ 62) ≤ i ∧ i < 2 ^ 62 ∧ -(2 ^ 62) ≤ j ∧ j < 2 ^ 62) ∧ Q (rng i j)
  | _ => False) E
theorem rng_neg {j : Int} (h : j ≤ 0) : rng 0 j = [] := by unfold rng; rw [show (j - 0).toNat = 0 by omega]; rfl
theorem di_range1 (hm : X.mg "range" = none) (ha : DA X W m [e] ws) (hg : Gl X "range" := by rfl) (hs : starEach [e] X.env = [(false, eval e X.env)] := by rfl) : DI X W tg (.Call (.Name "range" p) [e] [] pos) (wRng1 ws) := ⟨PI.weak (pi_range1 hg hm ha.pa hs) fun σ H R ⟨g, H0, ρ, Q0, E0, Rl, hw, hq, he⟩ => ⟨g, H0, ρ, _, E0, Rl, hw, fun xs vs H1 h1 e1 R1 r1 => by
  split at h1
  · rename_i j
    cases r1 with
    | cons r rr =>
      cases rr
      refine ⟨j, by rw [r.int R1], h1.1, h1.2.1, ?_⟩
      have e0 : (j - 0).toNat = j.toNat := by rw [Int.sub_zero]
      have w := walks_range (K := X.K) (H1 := H1) (av := avS g ρ σ) (lo := 0) (hi := j)
      rw [e0] at w
      exact hq _ _ H1 h1.2.2 e1 R1 w
  · exact h1.elim, he⟩⟩
theorem di_range2 (hm : X.mg "range" = none) (ha : DA X W m [e, e2] ws) (hg : Gl X "range" := by rfl) (hs : starEach [e, e2] X.env = [(false, eval e X.env), (false, eval e2 X.env)] := by rfl) (hs2 : starEach [e2] X.env = [(false, eval e2 X.env)] := by rfl) : DI X W tg (.Call (.Name "range" p) [e, e2] [] pos) (wRng2 ws) := ⟨PI.weak (pi_range2 hg hm ha.pa hs hs2) fun σ H R ⟨g, H0, ρ, Q0, E0, Rl, hw, hq, he⟩ => ⟨g, H0, ρ, _, E0, Rl, hw, fun xs vs H1 h1 e1 R1 r1 => by
  split at h1
  · rename_i i j
    cases r1 with
    | cons r rr =>
      cases rr with
      | cons r' rr =>
        cases rr
        exact ⟨i, j, by rw [r.int R1, r'.int R1], h1.1, hq _ _ H1 h1.2 e1 R1 walks_range⟩
  · exact h1.elim, he⟩⟩
def wZip (ws : WA) : WA := fun ρ Q E => ws ρ (fun xs => match xs with
  | [.lst xs, .lst ys] => Q (zipD xs ys)
  | [.tup xs, .tup ys] => Q (zipD xs ys)
  | _ => False) E
theorem di_zip {elts : List Expr} {kk : Nat} {tpos : Pos} (hm : X.mg "zip" = none) (ha : DA X W true [e, e2] ws) (hg : Gl X "zip" := by rfl) (hs : starEach [e, e2] X.env = (false, eval e X.env) :: starEach [e2] X.env := by rfl) (hpl : (backTo pos (starEach [e2] X.env)).any (·.1) = false := by rfl) :
    DI X W (.Tuple elts kk tpos) (.Call (.Name "zip" p) [e, e2] [] pos) (wZip ws) := ⟨PI.weak (RZ.pi_zipA hg hm ha.pa hs hpl) fun σ H R ⟨g, H0, ρ, Q0, E0, Rl, hw, hq, he⟩ => ⟨g, H0, ρ, _, E0, Rl, hw, fun xs vs H1 h1 e1 R1 r1 => by
  have r2 := r1.full
  split at h1
  · cases r2 with
    | cons r rr =>
      cases rr with
      | cons r' rr =>
        cases rr
        cases r with
        | lst hl n r =>
          cases r' with
          | lst hl' n' r' => exact ⟨_, _, _, _, rfl, .inl ⟨.inl (.inl hl), .inl (.inl hl'), hq _ _ H1 h1 e1 R1 (walks_zip hl n r hl' n' r')⟩⟩
  · cases r2 with
    | cons r rr =>
      cases rr with
      | cons r' rr =>
        cases rr
        cases r with
        | tup hl r =>
          cases r' with
          | tup hl' r' => exact ⟨_, _, _, _, rfl, .inr ⟨hl.sq, hl'.sq, hq _ _ H1 h1 e1 R1 (walks_zipT hl r hl' r')⟩⟩
  · exact h1.elim, he⟩⟩
end
end PL
end
section
set_option Elab.async false
set_option linter.all false
set_option maxRecDepth 100000
set_option maxHeartbeats 4000000
/-! The plain layer, 6: loops and comprehensions. -/
namespace PL
open PySem PySem.Spec PyProof.Rows L2
variable [TabList]

/-! ### for -/
def forL (tg : PTg) (wb : WS) : List D → PEnds → PSt → Prop
  | [], D, ρ => D.nx ρ
  | x :: xs, D, ρ => match tg x ρ with
    | none => False
    | some ρ' => wb { D with nx := forL tg wb xs D, ct := forL tg wb xs D, bk := D.nx } ρ'
def wFor (ws : WA) (tg : PTg) (wb : WS) : WS := fun D ρ => ws ρ (fun xs => forL tg wb xs D ρ) D.er
section
variable {K : PySem.W.Frag} {g : G} {H0 : Bs} {H H1 : Hp} {ρ ρ1 : PSt} {σ σ1 : L2.St}
/-- from a later point on -/
def Bs.from (g : G) (ρ : PSt) (σ : L2.St) (H : Hp) : Bs := ⟨H, fun a => g.ch a ∨ ∃ (i : Nat) (x : D), ρ[i]? = some (some (S.own x)) ∧ σ[i]? = some (some (V.ref a))⟩
theorem Rel.go (R : Rel K g H0 ρ σ H) : Rel K g (Bs.from g ρ σ H) ρ σ H where
  ok := R.ok
  ext := Ext.refl
  gch := fun _ h => .inl h
  len := R.len
  avt := R.avt
  dat := R.dat
  own := fun i x h => by
    obtain ⟨a, h1, h2, h3, h4⟩ := R.own i x h
    exact ⟨a, h1, h2, .inr (.inr ⟨i, x, h, h1⟩), h4⟩
  dis := R.dis
theorem Rel.back (R1 : Rel K g H0 ρ1 σ1 H1) (R : Rel K g (Bs.from g ρ1 σ1 H1) ρ σ H) : Rel K g H0 ρ σ H where
  ok := R.ok
  ext := ⟨fun a o q n t => R.ext.keep a o (R1.ext.keep a o q n t) (fun z => by
    rcases z with z | ⟨i, x, z1, z2⟩
    · exact n (R1.gch a z)
    · obtain ⟨b, k1, _, k3, _⟩ := R1.own i x z1
      rw [z2] at k1
      cases k1
      rcases k3 with k3 | k3
      · exact absurd ⟨_, q, t⟩ k3
      · exact n k3) t, fun a q => R.ext.there a (R1.ext.there a q)⟩
  gch := R1.gch
  len := R.len
  avt := R.avt
  dat := R.dat
  own := fun i x h => by
    obtain ⟨a, h1, h2, h3, h4⟩ := R.own i x h
    refine ⟨a, h1, h2, ?_, h4⟩
    rcases h3 with h3 | h3 | ⟨j, y, z1, z2⟩
    · exact .inl (R1.ext.free h3)
    · exact .inr (R1.gch a h3)
    · obtain ⟨b, k1, _, k3, _⟩ := R1.own j y z1
      rw [z2] at k1
      cases k1
      exact k3
  dis := R.dis
theorem Rel.since (R : Rel K g (Bs.from g ρ1 σ1 H1) ρ σ H) : Ext (avS g ρ1 σ1) H1 H := ⟨fun a o q n t => R.ext.keep a o q (fun z => n (z.imp (g.chav a) id)) t, R.ext.there⟩
theorem Rel.avSince (R : Rel K g (Bs.from g ρ1 σ1 H1) ρ σ H) {a : Addr} (h : avS g ρ σ a) : avS g ρ1 σ1 a ∨ ¬ NT H1 a := by
  rcases h with h | ⟨i, x, h1, h2⟩
  · exact .inl (.inl h)
  · obtain ⟨b, k1, _, k3, _⟩ := R.own i x h1
    rw [h2] at k1
    cases k1
    rcases k3 with k3 | k3 | k3
    · exact .inr k3
    · exact .inl (.inl (g.chav a k3))
    · exact .inl (.inr k3)
theorem EndsOk.at {D0 : PEnds} {Dn : Ends} {W : WX} (ok : EndsOk K g H0 D0 Dn W) (R1 : Rel K g H0 ρ1 σ1 H1) : EndsOk K g (Bs.from g ρ1 σ1 H1) D0 Dn W :=
  ⟨fun ρ σ H q R => ok.nx ρ σ H q (R1.back R), fun x ρ σ v H q R r => ok.rt x ρ σ v H q (R1.back R) r, fun ρ σ H q R => ok.bk ρ σ H q (R1.back R), fun ρ σ H q R => ok.ct ρ σ H q (R1.back R), fun er cls d ρ σ H q R ei => ok.er er cls d ρ σ H q (R1.back R) ei⟩
end
section
variable {X : Cx} {W : WX} {m : Bool} {tg iter e : Expr} {sts : List Stmt} {we : WE} {ws : WA} {wt : WT} {wb : WS} {f : PTg} {t : TG} {is : List Nat} {pos : Pos}
theorem ds_for (hp : PassesOwn (model X.prog X.w) X.A X.env X.xe) (hi : DI X W tg iter ws) (hg : DG X tg t f is) (hb : DSs X W sts wb) (hc : X.calm = true := by rfl) (hs : ∀ x, foldedSetIterable iter X.env x = pure x := by intro _; rfl) : DS X W (.For tg iter sts [] pos) (wFor ws f wb) := by
  obtain ⟨pg, hg⟩ := hg
  refine ⟨PS.weak (ps_for hp hc hi.pi pg hb.ps hs) fun Dn σ H ⟨g, H0, ρ, D0, R, hw, ok⟩ => ⟨g, H0, ρ, _, D0.er, R, hw, fun xs J H1 h1 e1 R1 wk => ?_, ok.ek⟩⟩
  have ok1 := ok.at R1
  refine ⟨fun i m σ' H' => m = xs.length - i ∧ i ≤ xs.length ∧ ∃ ρ', Rel X.K g (Bs.from g ρ σ H1) ρ' σ' H' ∧ forL f wb (xs.drop i) D0 ρ', ⟨_, rfl, Nat.zero_le _, ρ, R1.go, h1⟩, ?_⟩
  rintro i m σ' H' ⟨rfl, hi, ρ', R', fl⟩
  obtain ⟨w1, w2⟩ := wk H' (avS g ρ' σ') R'.since (fun a z => R'.avSince z) (fun a z => R'.avS_there z) i
  by_cases hlt : i < xs.length
  · obtain ⟨go, yl⟩ := w1 hlt
    refine .inr ⟨go, fun σ2 H2 => i + 1 ≤ xs.length ∧ ∃ ρ2, Rel X.K g (Bs.from g ρ σ H1) ρ2 σ2 H2 ∧ forL f wb (xs.drop (i + 1)) D0 ρ2, fun σ2 H2 ⟨q1, q2⟩ => ⟨xs.length - (i + 1), by omega, rfl, q1, q2⟩, fun x H2 y => ?_⟩
    obtain ⟨ex, d, hd, rp⟩ := yl x H2 y
    have e0 : xs.drop i = d :: xs.drop (i + 1) := by
      have q := List.drop_eq_getElem_cons hlt
      rw [q]
      rw [List.getElem?_eq_getElem hlt] at hd
      rw [Option.some.inj hd]
    rw [e0] at fl
    unfold forL at fl
    split at fl
    · exact fl.elim
    · rename_i ρ2 e2
      refine hg g _ ρ' ρ2 σ' H2 d x _ (R'.ex ex) rp e2 fun σ2 R2 _ _ _ _ => ?_
      exact ⟨g, _, ρ2, _, R2, fl, ⟨fun ρ3 σ3 H3 q R3 => ⟨hlt, ρ3, R3, q⟩, ok1.rt, ok1.nx, fun ρ3 σ3 H3 q R3 => ⟨hlt, ρ3, R3, q⟩, ok1.er⟩⟩
  · refine .inl ⟨w2 (by omega), ?_⟩
    rw [List.drop_eq_nil_of_le (by omega)] at fl
    exact ok1.nx ρ' σ' H' fl R'

/-! ### comprehensions -/
def wipeP (ρ : PSt) : List Nat → PSt
  | [] => ρ
  | i :: is => (wipeP ρ is).set i none
def noOwn (ρ : PSt) (is : List Nat) : Bool := is.all fun i => match ρ[i]? with
  | some (some (.own _)) => false
  | _ => true
def lcL (tg : PTg) (wt : WT) (we : WE) (ρw : PSt) : List D → List D → (D → Prop) → Prop
  | [], acc, Q => Q (.lst acc)
  | x :: xs, acc, Q => match tg x ρw with
    | none => False
    | some ρ' => wt ρ' (fun b => match b with
      | true => we ρ' (fun y => acc.length < LL ∧ lcL tg wt we ρw xs (acc ++ [y]) Q) fun _ => False
      | false => lcL tg wt we ρw xs acc Q) fun _ => False
/-- [e for tg in iter if ..]: is, the comprehension's own slots -/
def wLc (ws : WA) (tg : PTg) (wt : WT) (we : WE) (is : List Nat) : WE := fun ρ Q E => noOwn ρ is = true ∧ ws ρ (fun xs => lcL tg wt we (wipeP ρ is) xs [] Q) E
def wYes : WT := fun _ Q _ => Q true
end
section
variable {K : PySem.W.Frag} {g : G} {H0 : Bs} {H H1 : Hp} {ρ ρ1 : PSt} {σ σ1 : L2.St}
theorem wipeP_out {i : Nat} : ∀ {is : List Nat}, i ∉ is → (wipeP ρ is)[i]? = ρ[i]?
  | [], _ => rfl
  | j :: is, h => by
    have h1 : i ≠ j := fun z => h (by rw [z]; exact List.mem_cons_self)
    show ((wipeP ρ is).set j none)[i]? = ρ[i]?
    rw [List.getElem?_set_ne fun z => h1 z.symm]
    exact wipeP_out fun z => h (List.mem_cons_of_mem _ z)
theorem wipe_out' {i : Nat} : ∀ {is : List Nat}, i ∉ is → (wipe σ is)[i]? = σ[i]?
  | [], _ => rfl
  | j :: is, h => by
    have h1 : i ≠ j := fun z => h (by rw [z]; exact List.mem_cons_self)
    show ((wipe σ is).set j none)[i]? = σ[i]?
    rw [List.getElem?_set_ne fun z => h1 z.symm]
    exact wipe_out' fun z => h (List.mem_cons_of_mem _ z)
theorem wipeP_in {i : Nat} {x : S} : ∀ {is : List Nat}, i ∈ is → (wipeP ρ is)[i]? ≠ some (some x)
  | j :: is, h => by
    intro z
    have z : ((wipeP ρ is).set j none)[i]? = some (some x) := z
    by_cases e : i = j
    · subst e
      by_cases hl : i < (wipeP ρ is).length
      · rw [List.getElem?_set_self hl] at z; cases z
      · rw [List.getElem?_eq_none (by simpa using hl)] at z; cases z
    · rw [List.getElem?_set_ne fun z => e z.symm] at z
      rcases List.mem_cons.mp h with q | q
      · exact e q
      · exact wipeP_in q z
theorem wipeP_length : ∀ {is : List Nat}, (wipeP ρ is).length = ρ.length
  | [] => rfl
  | j :: is => by
    show ((wipeP ρ is).set j none).length = _
    rw [List.length_set]
    exact wipeP_length
theorem wipe_length' : ∀ {is : List Nat}, (wipe σ is).length = σ.length
  | [] => rfl
  | j :: is => by
    show ((wipe σ is).set j none).length = _
    rw [List.length_set]
    exact wipe_length'
/-- slots alike but for some, which are wiped -/
theorem wipe_eq {σ2 : L2.St} : ∀ {is : List Nat}, (∀ i, i ∉ is → σ2[i]? = σ[i]?) → σ2.length = σ.length → wipe σ2 is = wipe σ is := fun {is} h hl => by
  refine List.ext_getElem? fun i => ?_
  by_cases hi : i ∈ is
  · have key : ∀ τ : L2.St, τ.length = σ.length → (wipe τ is)[i]? = if i < σ.length then some none else none := fun τ e => by
      clear h
      induction is with
      | nil => cases hi
      | cons j is ih =>
        show ((wipe τ is).set j none)[i]? = _
        by_cases ej : i = j
        · subst ej
          by_cases hlt : i < σ.length
          · rw [List.getElem?_set_self (by rw [wipe_length', e]; exact hlt), if_pos hlt]
          · rw [List.getElem?_eq_none (by rw [List.length_set, wipe_length', e]; omega), if_neg hlt]
        · rw [List.getElem?_set_ne fun z => ej z.symm]
          exact ih ((List.mem_cons.mp hi).resolve_left ej)
    rw [key σ2 hl, key σ rfl]
  · rw [wipe_out' hi, wipe_out' hi, h i hi]
theorem noOwn_at {is : List Nat} (h : noOwn ρ is = true) {i : Nat} (hi : i ∈ is) (x : D) : ρ[i]? ≠ some (some (S.own x)) := fun z => by
  have q := List.all_eq_true.mp h i hi
  rw [z] at q
  cases q
theorem avS_wipe {is : List Nat} (h : noOwn ρ is = true) {a : Addr} : avS g (wipeP ρ is) (wipe σ is) a ↔ avS g ρ σ a := by
  constructor
  · rintro (z | ⟨i, x, h1, h2⟩)
    · exact .inl z
    · by_cases hi : i ∈ is
      · exact absurd h1 (wipeP_in hi)
      · rw [wipeP_out hi] at h1
        rw [wipe_out' hi] at h2
        exact .inr ⟨i, x, h1, h2⟩
  · rintro (z | ⟨i, x, h1, h2⟩)
    · exact .inl z
    · have hi : i ∉ is := fun z => noOwn_at h z x h1
      exact .inr ⟨i, x, by rw [wipeP_out hi]; exact h1, by rw [wipe_out' hi]; exact h2⟩
theorem Rel.wipe {is : List Nat} (R : Rel K g H0 ρ σ H) (h : noOwn ρ is = true) : Rel K g H0 (wipeP ρ is) (wipe σ is) H where
  ok := R.ok
  ext := R.ext
  gch := R.gch
  len := by rw [wipeP_length, wipe_length']; exact R.len
  avt := R.avt
  dat := fun i x q => by
    by_cases hi : i ∈ is
    · exact absurd q (wipeP_in hi)
    · rw [wipeP_out hi] at q
      obtain ⟨v, k1, k2⟩ := R.dat i x q
      exact ⟨v, by rw [wipe_out' hi]; exact k1, k2.less fun _ _ z => (avS_wipe h).mp z⟩
  own := fun i x q => by
    by_cases hi : i ∈ is
    · exact absurd q (wipeP_in hi)
    · rw [wipeP_out hi] at q
      obtain ⟨a, k1, k2, k3, k4⟩ := R.own i x q
      exact ⟨a, by rw [wipe_out' hi]; exact k1, k2, k3, k4.mono (ch := fun _ => False) Ext.refl (fun _ z => z.elim) (fun _ _ z => (avS_wipe h).mp z) fun z => z.elim⟩
  dis := fun i j x y a h1 h2 h3 h4 => by
    by_cases hi : i ∈ is
    · exact absurd h1 (wipeP_in hi)
    · by_cases hj : j ∈ is
      · exact absurd h2 (wipeP_in hj)
      · rw [wipeP_out hi] at h1
        rw [wipeP_out hj] at h2
        rw [wipe_out' hi] at h3
        rw [wipe_out' hj] at h4
        exact R.dis i j x y a h1 h2 h3 h4
/-- the ghost within a comprehension whose list is made at D -/
def G.and (g : G) (D : Addr) : G := { g with av := fun a => g.av a ∨ a = D, hav := fun h c e => ⟨.inl (g.hav h c e).1, .inl (g.hav h c e).2⟩ }
theorem avS_and {D a : Addr} : avS (g.and D) ρ σ a ↔ avP g ρ σ D a := by
  constructor
  · rintro ((z | z) | z)
    · exact .inl (.inl z)
    · exact .inr z
    · exact .inl (.inr z)
  · rintro ((z | z) | z)
    · exact .inl (.inl z)
    · exact .inr z
    · exact .inl (.inr z)
theorem Rel.and (R : Rel K g H0 ρ σ H) {D : Addr} {o : HO} (h : H D = none) (no : ∀ ps, o ≠ .tbl ps := by intro _ z; cases z) : Rel K (g.and D) H0 ρ σ (upd H D o) := by
  have R' := R.new (o := o) h
  have e : Ext g.ch H (upd H D o) := Ext.new h
  refine ⟨R'.ok, R'.ext, R'.gch, R'.len, fun a z => ?_, fun i x q => ?_, fun i x q => ?_, R'.dis⟩
  · rcases z with z | z
    · exact R'.avt a z
    · rw [z]; exact .of upd_same no
  · obtain ⟨v, k1, k2⟩ := R.dat i x q
    exact ⟨v, k1, k2.mono e Rel.chS fun b hb z => avP_new (nnt h) b hb (avS_and.mp z)⟩
  · obtain ⟨a, k1, k2, k3, k4⟩ := R.own i x q
    refine ⟨a, k1, fun z => ?_, k3, k4.mono e Rel.chS (fun b hb z => avP_new (nnt h) b hb (avS_and.mp z)) fun z => k2 (g.chav a z)⟩
    rcases z with z | z
    · exact k2 z
    · exact nnt h (by rw [← z]; exact k4.nt)
theorem Rel.unand {D : Addr} (R : Rel K (g.and D) H0 ρ σ H) : Rel K g H0 ρ σ H := by
  refine ⟨R.ok, R.ext, R.gch, R.len, fun a z => R.avt a (.inl z), fun i x q => ?_, fun i x q => ?_, R.dis⟩
  · obtain ⟨v, k1, k2⟩ := R.dat i x q
    exact ⟨v, k1, k2.less fun b _ z => avS_and.mpr (.inl z)⟩
  · obtain ⟨a, k1, k2, k3, k4⟩ := R.own i x q
    exact ⟨a, k1, fun z => k2 (.inl z), k3, k4.mono (ch := fun _ => False) Ext.refl (fun _ z => z.elim) (fun b _ z => avS_and.mpr (.inl z)) fun z => z.elim⟩
/-- the list that is made is changed -/
theorem Rel.updD {D : Addr} {acc : List V} {o : HO} (R : Rel K (g.and D) H0 ρ σ H) (h : H D = some (.lst acc)) (n : ¬ g.av D) (h0 : ¬ NT H0.H D) (no : ∀ ps, o ≠ .tbl ps := by intro _ z; cases z) : Rel K (g.and D) H0 ρ σ (upd H D o) := by
  have ea : Ext (fun b => b = D) H (upd H D o) := ⟨fun b u q n _ => by rw [upd_ne n]; exact q, nt_upd (.of upd_same no)⟩
  have hc : ∀ b, b = D → avS (g.and D) ρ σ b := fun b e => .inl (.inr e)
  have ok : g.ok H := R.ok
  have ok' : g.ok (upd H D o) := ok.upd h trivial n
  refine ⟨ok', ⟨fun b u q n t => ?_, fun b q => ea.there b (R.ext.there b q)⟩, R.gch, R.len, fun b q => ea.there b (R.avt b q), fun i x q => ?_, fun i x q => ?_, R.dis⟩
  · have e : b ≠ D := fun z => h0 (by rw [← z]; exact ⟨u, q, t⟩)
    rw [upd_ne e]; exact R.ext.keep b u q n t
  · obtain ⟨v, k1, k2⟩ := R.dat i x q
    exact ⟨v, k1, k2.mono ea hc fun _ _ z => z⟩
  · obtain ⟨a, k1, k2, k3, k4⟩ := R.own i x q
    exact ⟨a, k1, k2, k3, k4.mono ea hc (fun _ _ z => z) fun z => k2 (.inr z)⟩
end
section
variable {X : Cx} {W : WX} {m : Bool} {tg iter elt : Expr} {ifs : List Expr} {we : WE} {ws : WA} {wt : WT} {t : TG} {f : PTg} {is js : List Nat} {pos : Pos}
abbrev WN : WX := fun _ _ _ _ => False
theorem up_lc {g' : TG} {K : PySem.W.Frag} (hj : ∀ j ∈ js, j ∈ is)
    (hg : TgOk K g' f js) :
    ∀ σ H Q, upF K (wLc ws f wt we is) W σ H Q → tLc (upI K ws W) g' (upT K wt WN) (up K we WN true) is σ H Q := fun σ H Q ⟨g, H0, ρ, Q0, E0, R, ⟨hno, hw⟩, hq, he⟩ => by
  refine ⟨g, H0, ρ, _, E0, R, hw, fun xs J H1 h1 e1 R1 wk D hD => ?_, he⟩
  have n0 : ¬ g.av D := fun z => nnt hD (R1.avt D z)
  have h00 : ¬ NT H0.H D := R1.ext.free (nnt hD)
  refine ⟨fun i m H' => m = xs.length - i ∧ i ≤ xs.length ∧ ∃ acc accV, H' D = some (.lst accV) ∧ Rel K (g.and D) H0 ρ σ H' ∧ Rps K H' (avP g ρ σ D) acc accV ∧ lcL f wt we (wipeP ρ is) (xs.drop i) acc Q0 ∧ Ext (fun a => g.ch a ∨ a = D) H1 H',
    ⟨_, rfl, Nat.zero_le _, [], [], upd_same, R1.and hD, .nil, h1, ⟨fun a o q n t => by rw [upd_ne fun z => n (.inr z)]; exact q, (Ext.new (ch := g.ch) hD).there⟩⟩, ?_⟩
  rintro i m H' ⟨rfl, hi, acc, accV, hacc, R', ra, fl, ex'⟩
  have exA : Ext (avS g ρ σ) H1 H' := ⟨fun a o q n t => ex'.keep a o q (fun z => z.elim (fun z => n (.inl (g.chav a z))) fun z => by rw [z, hD] at q; cases q) t, ex'.there⟩
  obtain ⟨w1, w2⟩ := wk H' (avP g ρ σ D) exA (fun a z => z.imp id fun z => by rw [z]; exact nnt hD) (fun a z => R'.avS_there (avS_and.mpr z)) i
  by_cases hlt : i < xs.length
  · obtain ⟨go, yl⟩ := w1 hlt
    refine .inr ⟨go, fun H2 => i + 1 ≤ xs.length ∧ ∃ acc accV, H2 D = some (.lst accV) ∧ Rel K (g.and D) H0 ρ σ H2 ∧ Rps K H2 (avP g ρ σ D) acc accV ∧ lcL f wt we (wipeP ρ is) (xs.drop (i + 1)) acc Q0 ∧ Ext (fun a => g.ch a ∨ a = D) H1 H2,
      fun H2 ⟨q1, q2⟩ => ⟨xs.length - (i + 1), by omega, rfl, q1, q2⟩, fun x H2 y => ?_⟩
    obtain ⟨exy, d, hd, rp⟩ := yl x H2 y
    have e0 : xs.drop i = d :: xs.drop (i + 1) := by
      have q := List.drop_eq_getElem_cons hlt
      rw [q]
      rw [List.getElem?_eq_getElem hlt] at hd
      rw [Option.some.inj hd]
    rw [e0] at fl
    unfold lcL at fl
    split at fl
    · exact fl.elim
    · rename_i ρ2 e2
      have hnA : noOwn ρ is = true := hno
      have R2 : Rel K (g.and D) H0 ρ σ H2 := R'.ex exy
      have R2w : Rel K (g.and D) H0 (wipeP ρ is) (wipe σ is) H2 := R2.wipe hno
      have ra2 : Rps K H2 (avP g ρ σ D) acc accV := ra.mono (ch := fun _ => False) (.of exy) (fun _ z => z.elim) fun _ _ z => z
      refine hg (g.and D) H0 (wipeP ρ is) ρ2 (wipe σ is) H2 d x _ R2w (rp.less fun a _ z => avS_and.mp ((avS_wipe hno).mp z)) e2 fun σ2 R3 a3 n3 o3 l3 => ⟨?_, ?_⟩
      · refine (wipe_eq (σ := wipe σ is) (fun j hj' => (n3 j fun z => hj' (hj j z)).2) l3).trans ?_
        exact wipe_eq (fun j hj' => wipe_out' hj') wipe_length'
      · -- within the turn: what is avoided is what was avoided ahead
        have up2 : ∀ a, avP g ρ σ D a → avS (g.and D) ρ2 σ2 a := fun a z => by
          rcases avS_and.mpr z with z | ⟨j, y, z1, z2⟩
          · exact .inl z
          · have hj' : j ∉ is := fun q => noOwn_at hno q y z1
            obtain ⟨m1, m2⟩ := n3 j fun q => hj' (hj j q)
            exact .inr ⟨j, y, by rw [m1, wipeP_out hj']; exact z1, by rw [m2, wipe_out' hj']; exact z2⟩
        have exS : ∀ {H3 : Hp}, Ext g.ch H2 H3 → Ext (fun a => g.ch a ∨ a = D) H1 H3 := fun {H3} e => (ex'.trans (.of exy)).trans ⟨fun a o q n t => e.keep a o q (fun z => n (.inl z)) t, e.there⟩
        have chP : ∀ a, g.ch a → avP g ρ σ D a := fun a z => .inl (.inl (g.chav a z))
        refine ⟨g.and D, H0, ρ2, _, fun _ => False, R3, fl, fun b H3 h3 e3 R4 => ?_, fun _ _ _ _ z => z.elim⟩
        have e3 : Ext g.ch H2 H3 := e3
        have D2 : H2 D = some (.lst accV) := exy D _ hacc
        have dk : ∀ {H3 : Hp}, Ext g.ch H2 H3 → H3 D = some (.lst accV) := fun {H3} e => e.keep D _ D2 (fun z => n0 (g.chav D z)) fun _ z => by cases z
        have R2b : ∀ {H3 : Hp}, Ext g.ch H2 H3 → g.ok H3 → Rel K (g.and D) H0 ρ σ H3 := fun {H3} e ok => R2.step e ok
        cases b with
        | false =>
          show (if false = true then _ else _)
          rw [if_neg Bool.false_ne_true]
          exact ⟨hlt, acc, accV, dk e3, R2b e3 R4.ok, ra2.mono e3 chP fun _ _ z => z, h3, exS e3⟩
        | true =>
          show (if true = true then _ else _)
          rw [if_pos rfl]
          refine ⟨g.and D, H0, ρ2, _, fun _ => False, R4, h3, fun y v H4 h4 e4 R5 r5 => ?_, fun _ _ _ _ z => z.elim⟩
          have e4 : Ext g.ch H3 H4 := e4
          have D4 := dk (e3.trans e4)
          have ra4 : Rps K H4 (avP g ρ σ D) acc accV := ra2.mono (e3.trans e4) chP fun _ _ z => z
          have ry : Rp K H4 (avP g ρ σ D) y v := r5.full.less fun a _ z => up2 a z
          have R6 : Rel K (g.and D) H0 ρ σ H4 := R2b (e3.trans e4) R5.ok
          have eD : Ext (fun b => b = D) H4 (upd H4 D (.lst (accV ++ [v]))) := ⟨fun b u q n _ => by rw [upd_ne n]; exact q, nt_upd (.of upd_same)⟩
          refine ⟨accV, D4, by rw [← ra.length]; exact ll_lt (Nat.le_of_lt h4.1), hlt, acc ++ [y], accV ++ [v], upd_same, R6.updD D4 n0 h00, (ra4.app (.cons ry .nil)).mono eD (fun b z => .inr z) fun _ _ z => z, h4.2, ?_⟩
          exact (exS (e3.trans e4)).trans ⟨fun a o q n t => eD.keep a o q (fun z => n (.inr z)) t, eD.there⟩
  · refine .inl ⟨w2 (by omega), ?_⟩
    rw [List.drop_eq_nil_of_le (by omega)] at fl
    have fl : Q0 (.lst acc) := fl
    have exG : Ext g.ch H1 H' := ⟨fun a o q n t => ex'.keep a o q (fun z => z.elim n fun z => by rw [z, hD] at q; cases q) t, ex'.there⟩
    exact hq _ D H' fl (e1.trans exG) R'.unand (e1.free (nnt hD)) (.lst hacc ra)
structure DTs (X : Cx) (W : WX) (ifs : List Expr) (w : WT) : Prop where
  pt : PTs X ifs (upT X.K w W)
theorem dts_nil : DTs X W [] wYes := ⟨⟨fun pins s σ H Q I ⟨g, H0, ρ, Q0, E0, R, hw, hq, he⟩ => pts_nil.run pins s σ H Q I (hq true H hw Ext.refl R)⟩⟩
theorem dts_one {c : Expr} (h : DT X W c wt) : DTs X W [c] wt := ⟨pts_one h.pt⟩
theorem df_lc {scope : Scope} {own : List (Str × Nat)} (hN : X.N.Nodup) (hi : DI X W tg iter ws) (ok : BlkOk X.N X.env.scope scope own)
    (hg : ∀ (s : Shared) (H : Hp) (C : Addr) (cl : List (Str × Addr)) (fp : List Addr), DG (X.blk s H scope (compEnvC scope cl C X.env) fp) tg t f js) (hj : ∀ j ∈ js, j ∈ own.map (·.2)) (ht : ∀ (s : Shared) (H : Hp) (C : Addr) (cl : List (Str × Addr)) (fp : List Addr), DTs (X.blk s H scope (compEnvC scope cl C X.env) fp) WN ifs wt)
    (he : ∀ (s : Shared) (H : Hp) (C : Addr) (cl : List (Str × Addr)) (fp : List Addr), DE (X.blk s H scope (compEnvC scope cl C X.env) fp) WN true elt we) (hc : X.calm = true := by rfl) (hs : ∀ x, foldedSetIterable iter X.env x = pure x := by intro _; rfl) :
    DF X W (.ListComp elt [⟨tg, iter, ifs, 0⟩] scope pos) (wLc ws f wt we (own.map (·.2))) :=
  ⟨PE.weak (pe_lc hc hN hi.pi ok (fun s H C cl fp => (hg s H C cl fp).pg) (fun s H C cl fp => (ht s H C cl fp).pt) (fun s H C cl fp => (he s H C cl fp).pe) hs) (up_lc hj (hg {} (fun _ => none) 0 [] []).ok)⟩
/-- y = [..] on one line -/
theorem ps_lc {i : Nat} {y : Str} {py : Pos} {scope : Scope} {own : List (Str × Nat)} {spos : Pos} (hN : X.N.Nodup) (hi : DI X W tg iter ws) (ok : BlkOk X.N X.env.scope scope own)
    (hg : ∀ (s : Shared) (H : Hp) (C : Addr) (cl : List (Str × Addr)) (fp : List Addr), DG (X.blk s H scope (compEnvC scope cl C X.env) fp) tg t f js) (ht : ∀ (s : Shared) (H : Hp) (C : Addr) (cl : List (Str × Addr)) (fp : List Addr), DTs (X.blk s H scope (compEnvC scope cl C X.env) fp) WN ifs wt)
    (he : ∀ (s : Shared) (H : Hp) (C : Addr) (cl : List (Str × Addr)) (fp : List Addr), DE (X.blk s H scope (compEnvC scope cl C X.env) fp) WN true elt we) (hy : X.N[i]? = some y) (hyl : X.env.scope.names.lookup y = some .local)
    (hsw : swapsWith (.ListComp elt [⟨tg, iter, ifs, 0⟩] scope pos) (some (.Name y py)) spos.line X.env = pure true) (hc : X.calm = true) (hs : ∀ x, foldedSetIterable iter X.env x = pure x) :
    PS X (.Assign [.Name y py] (.ListComp elt [⟨tg, iter, ifs, 0⟩] scope pos) spos) (tAsg (tLc (upI X.K ws W) t (upT X.K wt WN) (up X.K we WN true) (own.map (·.2))) (gName i)) :=
  ps_setLc hc hN hy hyl hsw hi.pi ok (fun s H C cl fp => (hg s H C cl fp).pg) (fun s H C cl fp => (ht s H C cl fp).pt) (fun s H C cl fp => (he s H C cl fp).pe) hs
theorem ds_lc (i : Nat) {y : Str} {py : Pos} {scope : Scope} {own : List (Str × Nat)} {spos : Pos} (hN : X.N.Nodup) (hi : DI X W tg iter ws) (ok : BlkOk X.N X.env.scope scope own)
    (hg : ∀ (s : Shared) (H : Hp) (C : Addr) (cl : List (Str × Addr)) (fp : List Addr), DG (X.blk s H scope (compEnvC scope cl C X.env) fp) tg t f js) (hj : ∀ j ∈ js, j ∈ own.map (·.2)) (ht : ∀ (s : Shared) (H : Hp) (C : Addr) (cl : List (Str × Addr)) (fp : List Addr), DTs (X.blk s H scope (compEnvC scope cl C X.env) fp) WN ifs wt)
    (he : ∀ (s : Shared) (H : Hp) (C : Addr) (cl : List (Str × Addr)) (fp : List Addr), DE (X.blk s H scope (compEnvC scope cl C X.env) fp) WN true elt we) (hy : X.N[i]? = some y := by rfl) (hyl : X.env.scope.names.lookup y = some .local := by rfl)
    (hsw : swapsWith (.ListComp elt [⟨tg, iter, ifs, 0⟩] scope pos) (some (.Name y py)) spos.line X.env = pure true := by exact (sw_true rfl rfl rfl (by decide +kernel))) (hc : X.calm = true := by rfl) (hs : ∀ x, foldedSetIterable iter X.env x = pure x := by intro _; rfl) :
    DS X W (.Assign [.Name y py] (.ListComp elt [⟨tg, iter, ifs, 0⟩] scope pos) spos) (wSet i (wLc ws f wt we (own.map (·.2)))) :=
  ⟨PS.weak (ps_lc hN hi ok hg ht he hy hyl hsw hc hs) fun Dn σ H ⟨g, H0, ρ, D0, R, hw, ok⟩ => up_lc hj (hg {} (fun _ => none) 0 [] []).ok σ H _ ⟨g, H0, ρ, _, D0.er, R, hw, fun x a H' h e' R' n o => ok.nx _ _ _ h (R'.setD (o.rp (fun _ _ z => .inl z) (fun z => n (R.avS_there z)))), ok.ek⟩⟩
theorem ds_lcO (i : Nat) {y : Str} {py : Pos} {scope : Scope} {own : List (Str × Nat)} {spos : Pos} (hN : X.N.Nodup) (hi : DI X W tg iter ws) (ok : BlkOk X.N X.env.scope scope own)
    (hg : ∀ (s : Shared) (H : Hp) (C : Addr) (cl : List (Str × Addr)) (fp : List Addr), DG (X.blk s H scope (compEnvC scope cl C X.env) fp) tg t f js) (hj : ∀ j ∈ js, j ∈ own.map (·.2)) (ht : ∀ (s : Shared) (H : Hp) (C : Addr) (cl : List (Str × Addr)) (fp : List Addr), DTs (X.blk s H scope (compEnvC scope cl C X.env) fp) WN ifs wt)
    (he : ∀ (s : Shared) (H : Hp) (C : Addr) (cl : List (Str × Addr)) (fp : List Addr), DE (X.blk s H scope (compEnvC scope cl C X.env) fp) WN true elt we) (hy : X.N[i]? = some y := by rfl) (hyl : X.env.scope.names.lookup y = some .local := by rfl)
    (hsw : swapsWith (.ListComp elt [⟨tg, iter, ifs, 0⟩] scope pos) (some (.Name y py)) spos.line X.env = pure true := by exact (sw_true rfl rfl rfl (by decide +kernel))) (hc : X.calm = true := by rfl) (hs : ∀ x, foldedSetIterable iter X.env x = pure x := by intro _; rfl) :
    DS X W (.Assign [.Name y py] (.ListComp elt [⟨tg, iter, ifs, 0⟩] scope pos) spos) (wOwn i (wLc ws f wt we (own.map (·.2)))) :=
  ⟨PS.weak (ps_lc hN hi ok hg ht he hy hyl hsw hc hs) fun Dn σ H ⟨g, H0, ρ, D0, R, hw, ok⟩ => up_lc hj (hg {} (fun _ => none) 0 [] []).ok σ H _ ⟨g, H0, ρ, _, D0.er, R, hw, fun x a H' h e' R' n o => ok.nx _ _ _ h (R.setO R' e' n o), ok.ek⟩⟩
end
end PL
end
section
set_option Elab.async false
set_option linter.all false
set_option maxRecDepth 100000
set_option maxHeartbeats 4000000
/-! The plain layer, 7: further statements; what is own and changed; errors; built-ins. -/
namespace PL
open PySem PySem.Spec PyProof.Rows L2
variable [TabList]

/-! ### two names at once -/
section
variable {K : PySem.W.Frag} {g : G} {H0 : Bs} {H H1 H2 : Hp} {ρ : PSt} {σ : L2.St} {a : Addr}
/-- a new thing at a, not yet in a slot, is kept out of what comes -/
theorem Rel.andF (R : Rel K g H0 ρ σ H) (R1 : Rel K g H0 ρ σ H1) (e : Ext g.ch H H1) (n : ¬ NT H a) (t : NT H1 a) : Rel K (g.and a) H0 ρ σ H1 := by
  refine ⟨R1.ok, R1.ext, R1.gch, R1.len, fun b z => ?_, fun i x q => ?_, fun i x q => ?_, R1.dis⟩
  · rcases z with z | z
    · exact R1.avt b z
    · rw [z]; exact t
  · obtain ⟨v, k1, k2⟩ := R.dat i x q
    exact ⟨v, k1, k2.mono e Rel.chS fun b hb z => avP_new n b hb (avS_and.mp z)⟩
  · obtain ⟨b, k1, k2, k3, k4⟩ := R.own i x q
    refine ⟨b, k1, fun z => ?_, k3, k4.mono e Rel.chS (fun b hb z => avP_new n b hb (avS_and.mp z)) fun z => k2 (g.chav b z)⟩
    rcases z with z | z
    · exact k2 z
    · exact n (by rw [← z]; exact k4.nt)
/-- from a state in which a is kept out: a slot set to a, own -/
theorem Rel.setA {i : Nat} {x : D} (R : Rel K (g.and a) H0 ρ σ H) (n : ¬ g.av a) (h0 : ¬ NT H0.H a) (o : OwnAt K H (avP g ρ σ a) x a) : Rel K g H0 (ρ.set i (some (.own x))) (σ.set i (some (.ref a))) H where
  ok := R.ok
  ext := R.ext
  gch := R.gch
  len := by rw [List.length_set, List.length_set]; exact R.len
  avt := fun b z => R.avt b (.inl z)
  dat := fun j y h => by
    rcases get_setS h with ⟨_, _, e2⟩ | ⟨nj, h⟩ | ⟨nj, h⟩
    · cases e2
    all_goals
      obtain ⟨u, h1, h2⟩ := R.dat j y h
      exact ⟨u, by rw [get_setN nj]; exact h1, h2.less fun b _ z => avS_and.mpr (avS_setO z)⟩
  own := fun j y h => by
    rcases get_setS h with ⟨e1, hl, e2⟩ | ⟨nj, h⟩ | ⟨nj, h⟩
    · cases e2
      subst e1
      exact ⟨a, List.getElem?_set_self (by rw [← R.len]; exact hl), n, .inl h0, o.mono (ch := fun _ => False) Ext.refl (fun _ z => z.elim) (fun _ _ z => avS_setO z) fun z => z.elim⟩
    all_goals
      obtain ⟨b, h1, h2, h3, h4⟩ := R.own j y h
      exact ⟨b, by rw [get_setN nj]; exact h1, fun z => h2 (.inl z), h3, h4.mono (ch := fun _ => False) Ext.refl (fun _ z => z.elim) (fun b _ z => avS_and.mpr (avS_setO z)) fun z => z.elim⟩
  dis := fun j k y z b h1 h2 h3 h4 => by
    have key : ∀ j y, ρ[j]? = some (some (S.own y)) → σ[j]? ≠ some (some (V.ref a)) := fun j y q z => by
      obtain ⟨b, k1, k2, _, k4⟩ := R.own j y q
      rw [z] at k1
      cases k1
      exact k2 (.inr rfl)
    have cse : ∀ j y, (ρ.set i (some (S.own x)))[j]? = some (some (S.own y)) → (σ.set i (some (V.ref a)))[j]? = some (some (V.ref b)) → (j = i ∧ b = a) ∨ (j ≠ i ∧ ρ[j]? = some (some (S.own y)) ∧ σ[j]? = some (some (V.ref b))) := fun j y q1 q2 => by
      by_cases e : j = i
      · subst e
        by_cases l : j < σ.length
        · rw [List.getElem?_set_self l] at q2
          cases q2
          exact .inl ⟨rfl, rfl⟩
        · rw [List.getElem?_eq_none (by simpa using l)] at q2
          cases q2
      · rw [get_setN e] at q1 q2
        exact .inr ⟨e, q1, q2⟩
    rcases cse j y h1 h3 with ⟨e1, q1⟩ | ⟨n1, p1, r1⟩ <;> rcases cse k z h2 h4 with ⟨e2, q2⟩ | ⟨n2, p2, r2⟩
    · rw [e1, e2]
    · exact absurd r2 (by rw [q1]; exact key _ _ p2)
    · exact absurd r1 (by rw [q2]; exact key _ _ p1)
    · exact R.dis j k y z b p1 p2 r1 r2
theorem Rp.setA {i : Nat} {x y : D} {v : V} (r : Rp K H (avP g ρ σ a) y v) : Rp K H (avS g (ρ.set i (some (.own x))) (σ.set i (some (.ref a)))) y v := r.less fun _ _ z => avS_setO z
end
section
variable {X : Cx} {W : WX} {m m1 m2 m3 : Bool} {a b c e : Expr} {es : List Expr} {wa wb wc we : WE} {ws : WA} {wt : WT} {pos p : Pos}
def wPar (i j : Nat) (wa wb : WE) : WS := fun D ρ => wa ρ (fun x => wb ρ (fun y => D.nx ((ρ.set i (some (.d x))).set j (some (.d y)))) D.er) D.er
def wParOD (i j : Nat) (wa wb : WE) : WS := fun D ρ => wa ρ (fun x => wb ρ (fun y => D.nx ((ρ.set i (some (.own x))).set j (some (.d y)))) D.er) D.er
def wParDO (i j : Nat) (wa wb : WE) : WS := fun D ρ => wa ρ (fun x => wb ρ (fun y => D.nx ((ρ.set i (some (.d x))).set j (some (.own y)))) D.er) D.er
def wParOO (i j : Nat) (wa wb : WE) : WS := fun D ρ => wa ρ (fun x => wb ρ (fun y => D.nx ((ρ.set i (some (.own x))).set j (some (.own y)))) D.er) D.er
theorem set_set {α : Type} {l : List α} {i j : Nat} {x y : α} (h : i ≠ j) : (l.set i x).set j y = (l.set j y).set i x := List.set_comm _ _ h
section
variable {i j : Nat} {x y : Str} {px py pt : Pos} {kt k2 : _} {pt2 : Pos}
theorem par_of {ta tb : TE} {w : WS} (hN : X.N.Nodup) (ha : PE X a ta) (hb : PE X b tb) (hi : X.N[i]? = some x) (hj : X.N[j]? = some y) (hij : i ≠ j) (hx : X.env.scope.names.lookup x = some .local) (hy : X.env.scope.names.lookup y = some .local)
    (hw : swappedStores [.Tuple [.Name x px, .Name y py] kt pt] (.Tuple [a, b] k2 pt2) X.env = pure (some [x, y])) (hs : swapsWithSole [.Tuple [.Name x px, .Name y py] kt pt] (.Tuple [a, b] k2 pt2) pos.line X.env = pure false) (hc : X.calm = true)
    (h1 : starEach [a, b] X.env = (false, eval a X.env) :: starEach [b] X.env) (h2 : starEach [b] X.env = (false, eval b X.env) :: starEach [] X.env)
    (k : ∀ Dn σ H, upS X.K w W Dn σ H → ta σ H fun v H1 => tb σ H1 fun u H2 => Dn.nx ((σ.set i (some v)).set j (some u)) H2) : DS X W (.Assign [.Tuple [.Name x px, .Name y py] kt pt] (.Tuple [a, b] k2 pt2) pos) w :=
  ⟨PS.weak (ps_par hc hN hi hj hij hx hy (pa_cons ha (pa_cons hb pa_nil h2) h1) hw hs) fun Dn σ H q => by
    have q2 := k Dn σ H q
    show tCons ta (tCons tb tNil) σ H (fun vs H1 => ∃ v w, vs = [v, w] ∧ Dn.nx ((σ.set i (some v)).set j (some w)) H1)
    have mono : ∀ {t : TE} {Q Q' : VK}, (∀ v H, Q v H → Q' v H) → Q = Q' ∨ True := fun _ => .inr trivial
    have e : (fun (v : V) (H1 : Hp) => tb σ H1 fun u H2 => ∃ v' w', [v, u] = [v', w'] ∧ Dn.nx ((σ.set i (some v')).set j (some w')) H2) = fun v H1 => tb σ H1 fun u H2 => Dn.nx ((σ.set i (some v)).set j (some u)) H2 := by
      funext v H1
      congr 1
      funext u H2
      refine propext ⟨fun ⟨v', w', e, q⟩ => ?_, fun q => ⟨v, u, rfl, q⟩⟩
      cases e
      exact q
    show ta σ H (fun (v : V) (H1 : Hp) => tb σ H1 fun u H2 => ∃ v' w', [v, u] = [v', w'] ∧ Dn.nx ((σ.set i (some v')).set j (some w')) H2)
    rw [e]
    exact q2⟩
variable (hN : X.N.Nodup)
theorem ds_par (i j : Nat) (ha : DE X W true a wa) (hb : DE X W true b wb) (hN : X.N.Nodup) (hi : X.N[i]? = some x := by rfl) (hj : X.N[j]? = some y := by rfl) (hij : i ≠ j := by decide) (hx : X.env.scope.names.lookup x = some .local := by rfl) (hy : X.env.scope.names.lookup y = some .local := by rfl)
    (hw : swappedStores [.Tuple [.Name x px, .Name y py] kt pt] (.Tuple [a, b] k2 pt2) X.env = pure (some [x, y]) := by rfl) (hs : swapsWithSole [.Tuple [.Name x px, .Name y py] kt pt] (.Tuple [a, b] k2 pt2) pos.line X.env = pure false := by rfl) (hc : X.calm = true := by rfl)
    (h1 : starEach [a, b] X.env = (false, eval a X.env) :: starEach [b] X.env := by rfl) (h2 : starEach [b] X.env = (false, eval b X.env) :: starEach [] X.env := by rfl) : DS X W (.Assign [.Tuple [.Name x px, .Name y py] kt pt] (.Tuple [a, b] k2 pt2) pos) (wPar i j wa wb) :=
  par_of hN ha.pe hb.pe hi hj hij hx hy hw hs hc h1 h2 fun Dn σ H ⟨g, H0, ρ, D0, R, hw, ok⟩ => ⟨g, H0, ρ, _, D0.er, R, hw, fun x v H1 h1 e1 R1 r1 => ⟨g, H0, ρ, _, D0.er, R1, h1, fun y u H2 h2 e2 R2 r2 =>
    ok.nx _ _ _ h2 ((R2.setD ((r1.mono e2).full)).setD (r2.full.less fun b _ z => avS_setD R2.len z)), ok.ek⟩, ok.ek⟩
theorem ds_parOD (i j : Nat) (ha : DF X W a wa) (hb : DE X W true b wb) (hN : X.N.Nodup) (hi : X.N[i]? = some x := by rfl) (hj : X.N[j]? = some y := by rfl) (hij : i ≠ j := by decide) (hx : X.env.scope.names.lookup x = some .local := by rfl) (hy : X.env.scope.names.lookup y = some .local := by rfl)
    (hw : swappedStores [.Tuple [.Name x px, .Name y py] kt pt] (.Tuple [a, b] k2 pt2) X.env = pure (some [x, y]) := by rfl) (hs : swapsWithSole [.Tuple [.Name x px, .Name y py] kt pt] (.Tuple [a, b] k2 pt2) pos.line X.env = pure false := by rfl) (hc : X.calm = true := by rfl)
    (h1 : starEach [a, b] X.env = (false, eval a X.env) :: starEach [b] X.env := by rfl) (h2 : starEach [b] X.env = (false, eval b X.env) :: starEach [] X.env := by rfl) : DS X W (.Assign [.Tuple [.Name x px, .Name y py] kt pt] (.Tuple [a, b] k2 pt2) pos) (wParOD i j wa wb) :=
  par_of hN ha.pe hb.pe hi hj hij hx hy hw hs hc h1 h2 fun Dn σ H ⟨g, H0, ρ, D0, R, hw, ok⟩ => ⟨g, H0, ρ, _, D0.er, R, hw, fun x l H1 h1 e1 R1 n1 o1 => by
    obtain ⟨ob, ho, hwr⟩ := o1.there
    have nav : ¬ g.av l := fun z => n1 (R.avt l z)
    refine ⟨g.and l, H0, ρ, _, D0.er, R.andF R1 e1 n1 o1.nt, h1, fun y u H2 h2 e2 R2 r2 => ?_, fun er cls d H2 q e2 R2 ei => ok.ek (H := H) er cls d H2 q (e1.trans e2) R2.unand (ei.less fun b _ z => avS_and.mpr (.inl z))⟩
    have e2 : Ext g.ch H1 H2 := e2
    have o2 : OwnAt X.K H2 (avP g ρ σ l) x l := o1.mono e2 (fun b z => .inl (.inl (g.chav b z))) (fun _ _ z => z) fun z => nav (g.chav l z)
    have R3 := R2.setA (i := i) nav (R.ext.free n1) o2
    exact ok.nx _ _ _ h2 (R3.setD (Rp.setA (r2.full.less fun b _ z => avS_and.mpr z))), ok.ek⟩
theorem ds_parDO (i j : Nat) (ha : DE X W true a wa) (hb : DF X W b wb) (hN : X.N.Nodup) (hi : X.N[i]? = some x := by rfl) (hj : X.N[j]? = some y := by rfl) (hij : i ≠ j := by decide) (hx : X.env.scope.names.lookup x = some .local := by rfl) (hy : X.env.scope.names.lookup y = some .local := by rfl)
    (hw : swappedStores [.Tuple [.Name x px, .Name y py] kt pt] (.Tuple [a, b] k2 pt2) X.env = pure (some [x, y]) := by rfl) (hs : swapsWithSole [.Tuple [.Name x px, .Name y py] kt pt] (.Tuple [a, b] k2 pt2) pos.line X.env = pure false := by rfl) (hc : X.calm = true := by rfl)
    (h1 : starEach [a, b] X.env = (false, eval a X.env) :: starEach [b] X.env := by rfl) (h2 : starEach [b] X.env = (false, eval b X.env) :: starEach [] X.env := by rfl) : DS X W (.Assign [.Tuple [.Name x px, .Name y py] kt pt] (.Tuple [a, b] k2 pt2) pos) (wParDO i j wa wb) :=
  par_of hN ha.pe hb.pe hi hj hij hx hy hw hs hc h1 h2 fun Dn σ H ⟨g, H0, ρ, D0, R, hw, ok⟩ => ⟨g, H0, ρ, _, D0.er, R, hw, fun x v H1 h1 e1 R1 r1 => ⟨g, H0, ρ, _, D0.er, R1, h1, fun y l H2 h2 e2 R2 n2 o2 => by
    have R3 := (R1.setD (i := i) r1.full).setO (i := j) (x := y) (R2.setD (i := i) (r1.mono e2).full) e2 n2 (o2.mono (ch := fun _ => False) Ext.refl (fun _ z => z.elim) (fun b _ z => z.imp (fun z => avS_setD R2.len z) id) fun z => z.elim)
    exact ok.nx _ _ _ h2 R3, ok.ek⟩, ok.ek⟩
theorem ds_parOO (i j : Nat) (ha : DF X W a wa) (hb : DF X W b wb) (hN : X.N.Nodup) (hi : X.N[i]? = some x := by rfl) (hj : X.N[j]? = some y := by rfl) (hij : i ≠ j := by decide) (hx : X.env.scope.names.lookup x = some .local := by rfl) (hy : X.env.scope.names.lookup y = some .local := by rfl)
    (hw : swappedStores [.Tuple [.Name x px, .Name y py] kt pt] (.Tuple [a, b] k2 pt2) X.env = pure (some [x, y]) := by rfl) (hs : swapsWithSole [.Tuple [.Name x px, .Name y py] kt pt] (.Tuple [a, b] k2 pt2) pos.line X.env = pure false := by rfl) (hc : X.calm = true := by rfl)
    (h1 : starEach [a, b] X.env = (false, eval a X.env) :: starEach [b] X.env := by rfl) (h2 : starEach [b] X.env = (false, eval b X.env) :: starEach [] X.env := by rfl) : DS X W (.Assign [.Tuple [.Name x px, .Name y py] kt pt] (.Tuple [a, b] k2 pt2) pos) (wParOO i j wa wb) :=
  par_of hN ha.pe hb.pe hi hj hij hx hy hw hs hc h1 h2 fun Dn σ H ⟨g, H0, ρ, D0, R, hw, ok⟩ => ⟨g, H0, ρ, _, D0.er, R, hw, fun x l H1 h1 e1 R1 n1 o1 => by
    obtain ⟨ob, ho, hwr⟩ := o1.there
    have nav : ¬ g.av l := fun z => n1 (R.avt l z)
    have RA := R.andF R1 e1 n1 o1.nt
    refine ⟨g.and l, H0, ρ, _, D0.er, RA, h1, fun y l2 H2 h2 e2 R2 n2 o2 => ?_, fun er cls d H2 q e2 R2 ei => ok.ek (H := H) er cls d H2 q (e1.trans e2) R2.unand (ei.less fun b _ z => avS_and.mpr (.inl z))⟩
    have e2 : Ext g.ch H1 H2 := e2
    have o1' : OwnAt X.K H2 (avP g ρ σ l) x l := o1.mono e2 (fun b z => .inl (.inl (g.chav b z))) (fun _ _ z => z) fun z => nav (g.chav l z)
    have S1 := RA.setA (i := i) nav (R.ext.free n1) o1
    have S2 := R2.setA (i := i) nav (R.ext.free n1) o1'
    refine ok.nx _ _ _ h2 (S1.setO (i := j) (x := y) S2 e2 n2 (o2.mono (ch := fun _ => False) Ext.refl (fun _ z => z.elim) (fun b _ z => ?_) fun z => z.elim))
    exact z.imp (fun z => avS_and.mpr (avS_setO z)) id, ok.ek⟩
end

/-! ### a, b = one thing; x op= e -/
def wUnp (f : PTg) (we : WE) : WS := fun D ρ => we ρ (fun x => match f x ρ with
  | some ρ' => D.nx ρ'
  | none => False) D.er
theorem ds_unp {tg : Expr} {t : TG} {f : PTg} {is : List Nat} (he : DE X W true e we) (hg : DG X tg t f is) (hs : swapsWithSole [tg] e pos.line X.env = pure false := by rfl) (hw : swappedStores [tg] e X.env = pure none := by rfl)
    (h1 : (assignEach [tg] X.env).map (·.2) = [assign tg X.env] := by rfl) : DS X W (.Assign [tg] e pos) (wUnp f we) :=
  ⟨PS.weak (ps_asg he.pe hg.pg hs hw h1) fun Dn σ H ⟨g, H0, ρ, D0, R, hw, ok⟩ => ⟨g, H0, ρ, _, D0.er, R, hw, fun x v H' h e' R' r => by
    split at h
    · rename_i ρ' e2
      exact hg.ok g H0 ρ ρ' σ H' x v _ R' r.full e2 fun σ' R2 _ _ _ _ => ok.nx ρ' σ' H' h R2
    · exact h.elim, ok.ek⟩⟩
def wAug (i : Nat) (f : Int → Int → Int) (we : WE) : WS := fun D ρ => match ρ[i]? with
  | some (some (.d (.int a))) => we ρ (fun y => match y with
    | .int b => D.nx (ρ.set i (some (.d (.int (f a b)))))
    | _ => False) D.er
  | _ => False
theorem ds_aug (i : Nat) {x : Str} {op : Operator} {f : Int → Int → Int} {pos' : Pos} (hN : X.N.Nodup) (ho : PIp X op (ipI f)) (he : DE X W m e we) (hi : X.N[i]? = some x := by rfl) (hx : Loc X.env.scope x := by first | exact Or.inl rfl | exact Or.inr rfl)
    (hf : X.fn x = true ∨ X.env.scope.names.lookup x = some .local := by first | exact .inl rfl | exact .inr rfl | assumption) : DS X W (.AugAssign (.Name x pos') op e pos) (wAug i f we) :=
  ⟨PS.weak (ps_aug hN hi hx he.pe ho hf) fun Dn σ H ⟨g, H0, ρ, D0, R, hw, ok⟩ => by
    unfold wAug at hw
    split at hw
    · rename_i a e1
      obtain ⟨v, k1, k2⟩ := R.dat i _ e1
      cases k2
      refine ⟨_, k1, g, H0, ρ, _, D0.er, R, hw, fun y u H' h e' R' r => ?_, ok.ek⟩
      split at h
      · exact ⟨_, _, rfl, r.int R', ok.nx _ _ _ h (R'.setD (.int _))⟩
      · exact h.elim
    · exact hw.elim⟩

/-! ### an own list: append, an item stored, an item popped -/
def wApp (i : Nat) (we : WE) : WS := fun D ρ => we ρ (fun y => match ρ[i]? with
  | some (some (.own (.lst xs))) => xs.length < LL ∧ D.nx (ρ.set i (some (.own (.lst (xs ++ [y])))))
  | _ => False) D.er
/-- as data, whatever comes: ρ[i] is an own list -/
def isOwnL (ρ : PSt) (i : Nat) : Prop := ∃ xs, ρ[i]? = some (some (.own (.lst xs)))
theorem ds_app (i : Nat) {x : Str} {px apos cpos : Pos} (he : DE X W true e we) (hN : X.N[i]? = some x := by rfl) (hv : Vis X.env.scope x := by first | exact Or.inl rfl | exact Or.inr (Or.inl rfl) | exact Or.inr (Or.inr rfl)) (hd : (x == ("__debug__" : Str)) = false := by decide) (hcd : (x == ("__classdict__" : Str)) = false := by decide)
    (hbase : attributeBase (.Name x px) "append" X.env (eval (.Name x px) X.env) = eval (.Name x px) X.env := by rfl)
    (hfew : ((backTo cpos (starEach [e] X.env)).all (fun x => !x.1) && (backToKw cpos (keywordEach [] X.env)).all (fun x => x.1.isSome) && decide (([e] : List Expr).length + ([] : List Keyword).length + (if ([] : List Keyword).isEmpty then 0 else 1) < 30)) = true := by rfl)
    (hline : (apos.endLine == cpos.line) = true := by rfl) (hs : starEach [e] X.env = (false, eval e X.env) :: starEach [] X.env := by rfl) (hplain : (backTo cpos (starEach [] X.env)).any (·.1) = false := by rfl)
    (hsw : swapsWith (.Call (.Attribute (.Name x px) "append" apos) [e] [] cpos) none pos.line X.env = pure false := by rfl) : DS X W (.Expr (.Call (.Attribute (.Name x px) "append" apos) [e] [] cpos) pos) (fun D ρ => isOwnL ρ i ∧ wApp i we D ρ) :=
  ⟨PS.weak (ps_expr (pe_bm PySem.F.plainAttrs_list PySem.F.slot_list_append PySem.F.type_list_append mt_append (pe_var hN hv hd hcd) (pa_cons he.pe pa_nil hs) hbase hfew hline hs hplain) hsw) fun Dn σ H ⟨g, H0, ρ, D0, R, ⟨⟨xs, ho⟩, hw⟩, ok⟩ => by
    obtain ⟨a, k1, k2, k3, k4⟩ := R.own i _ ho
    cases k4 with
    | lst hl hr =>
      refine ⟨_, k1, .inl ⟨rfl, _, .inl (.inl hl)⟩, g, H0, ρ, _, D0.er, R, hw, fun y u H' h e' R' r => ?_, ok.ek⟩
      rw [ho] at h
      obtain ⟨a', j1, j2, j3, j4⟩ := R'.own i _ ho
      rw [k1] at j1
      cases j1
      cases j4 with
      | lst hl' hr' =>
        rename_i vs'
        have ina : avS g ρ σ a := .inr ⟨i, _, ho, k1⟩
        have ea : Ext (fun b => b = a) H' (upd H' a (.lst (vs' ++ [u]))) := ⟨fun b w q n _ => by rw [upd_ne n]; exact q, nt_upd (.of upd_same)⟩
        refine ⟨a, _, u, rfl, rfl, hl', by rw [← hr'.length]; exact ll_lt (Nat.le_of_lt h.1), ok.nx _ _ _ h.2 (R'.write ho k1 (.lst upd_same ((hr'.app (.cons r.full .nil)).mono ea (fun b z => by rw [z]; exact ina) fun _ _ z => z)))⟩⟩
/-- xs[i] = e on an own list -/
def wSetL (i : Nat) (wi we : WE) : WS := fun D ρ => we ρ (fun y => wi ρ (fun k => match ρ[i]?, k with
  | some (some (.own (.lst xs))), .int k => match ixN xs.length k with
    | some j => D.nx (ρ.set i (some (.own (.lst (xs.set j y)))))
    | none => False
  | _, _ => False) D.er) D.er
theorem ds_setL (i : Nat) {x : Str} {px tpos : Pos} (he : DE X W true e we) (hk : DE X W m c wc) (hN : X.N[i]? = some x := by rfl) (hv : Vis X.env.scope x := by first | exact Or.inl rfl | exact Or.inr (Or.inl rfl) | exact Or.inr (Or.inr rfl)) (hd : (x == ("__debug__" : Str)) = false := by decide) (hcd : (x == ("__classdict__" : Str)) = false := by decide)
    (hsub : ∀ v, assign (.Subscript (.Name x px) c tpos) X.env v = (do
      let ov ← holding [v] (eval (.Name x px) X.env)
      let iv ← holding [v, ov] (eval c X.env)
      standAt tpos
      holding [v, ov, iv] (setItem ov iv v)
      release [v, ov, iv] []) := by intro _; rfl)
    (hs : swapsWithSole [.Subscript (.Name x px) c tpos] e pos.line X.env = pure false := by rfl) (hw : swappedStores [.Subscript (.Name x px) c tpos] e X.env = pure none := by rfl)
    (h1 : (assignEach [.Subscript (.Name x px) c tpos] X.env).map (·.2) = [assign (.Subscript (.Name x px) c tpos) X.env] := by rfl) : DS X W (.Assign [.Subscript (.Name x px) c tpos] e pos) (fun D ρ => isOwnL ρ i ∧ wSetL i wc we D ρ) :=
  ⟨PS.weak (ps_asg he.pe (pg_sub (pe_var hN hv hd hcd) hk.pe set_list hsub) hs hw h1) fun Dn σ H ⟨g, H0, ρ, D0, R, ⟨⟨xs, ho⟩, hw⟩, ok⟩ => ⟨g, H0, ρ, _, D0.er, R, hw, fun y u H1 h1 e1 R1 r1 => by
    obtain ⟨a, k1, k2, k3, k4⟩ := R1.own i _ ho
    refine ⟨_, k1, g, H0, ρ, _, D0.er, R1, h1, fun k w H2 h2 e2 R2 r2 => ?_, ok.ek⟩
    rw [ho] at h2
    cases k with
    | int k' =>
      dsimp only at h2
      split at h2
      · rename_i j e5
        obtain ⟨a', j1, j2, j3, j4⟩ := R2.own i _ ho
        rw [k1] at j1
        cases j1
        cases j4 with
        | lst hl' hr' =>
          rename_i vs'
          have ina : avS g ρ σ a := .inr ⟨i, _, ho, k1⟩
          have ea : Ext (fun b => b = a) H2 (upd H2 a (.lst (List.set vs' j u))) := ⟨fun b w q n _ => by rw [upd_ne n]; exact q, nt_upd (.of upd_same)⟩
          refine ⟨a, _, _, j, rfl, r2.int R2, hl', by rw [← hr'.length]; exact e5, ok.nx _ _ _ h2 (R2.write ho k1 (.lst upd_same ((hr'.set (r1.mono e2).full j).mono ea (fun b z => by rw [z]; exact ina) fun _ _ z => z)))⟩
      · exact h2.elim
    | _ => exact h2.elim, ok.ek⟩⟩

/-! ### dicts -/
def keyD : D → Option Key
  | .int i => some (.inl i)
  | .str s => some (.inr s)
  | _ => none
section
variable {κ α : Type} [DecidableEq κ]
def valG (kvs : List (κ × α)) (k : κ) : Option α := (kvs.find? fun kv => decide (kv.1 = k)).map (·.2)
def putG (kvs : List (κ × α)) (k : κ) (v : α) : List (κ × α) :=
  if (kvs.any fun kv => decide (kv.1 = k)) = true then kvs.map (fun kv => if kv.1 = k then (kv.1, v) else kv) else kvs ++ [(k, v)]
end
theorem keyD_V {K : PySem.W.Frag} {g : G} {H0 : Bs} {H : Hp} {ρ : PSt} {σ : L2.St} {x : D} {v : V} {k : Key} (R : Rel K g H0 ρ σ H) (h : keyD x = some k) (r : RpM m K H g ρ σ x v) : v = kV k := by
  unfold keyD at h
  split at h
  · cases h; exact r.int R
  · cases h; exact r.str R
  · cases h
section
variable {K : PySem.W.Frag} {H : Hp} {av : Addr → Prop} {κ : Type} [DecidableEq κ]
theorem rpk_val {k : κ} : ∀ {xs : List (κ × D)} {kvs : List (κ × V)}, kvs.map Prod.fst = xs.map Prod.fst → Rps K H av (xs.map Prod.snd) (kvs.map Prod.snd) →
    (valG xs k = none ∧ valV kvs k = none) ∨ ∃ x v, valG xs k = some x ∧ valV kvs k = some v ∧ Rp K H av x v
  | [], [], _, _ => .inl ⟨rfl, rfl⟩
  | [], _ :: _, h, _ => by cases h
  | _ :: _, [], h, _ => by cases h
  | (k1, x) :: xs, (k2, v) :: kvs, h, r => by
    rw [List.map_cons, List.map_cons] at h
    injection h with h1 h2
    have h1 : k2 = k1 := h1
    subst h1
    rw [List.map_cons, List.map_cons] at r
    cases r with
    | cons r1 r2 =>
      by_cases e : k2 = k
      · refine .inr ⟨x, v, ?_, ?_, r1⟩
        · unfold valG; rw [List.find?_cons_of_pos (by simpa using e)]; rfl
        · unfold valV; rw [List.find?_cons_of_pos (by simpa using e)]; rfl
      · have i1 : valG ((k2, x) :: xs) k = valG xs k := by unfold valG; rw [List.find?_cons_of_neg (by simpa using e)]
        have i2 : valV ((k2, v) :: kvs) k = valV kvs k := by unfold valV; rw [List.find?_cons_of_neg (by simpa using e)]
        rw [i1, i2]
        exact rpk_val h2 r2
theorem any_key {k : κ} : ∀ {xs : List (κ × D)} {kvs : List (κ × V)}, kvs.map Prod.fst = xs.map Prod.fst → (kvs.any fun kv => decide (kv.1 = k)) = xs.any fun kv => decide (kv.1 = k)
  | [], [], _ => rfl
  | [], _ :: _, h => by cases h
  | _ :: _, [], h => by cases h
  | (k1, x) :: xs, (k2, v) :: kvs, h => by
    rw [List.map_cons, List.map_cons] at h
    injection h with h1 h2
    have h1 : k2 = k1 := h1
    rw [List.any_cons, List.any_cons, any_key h2, h1]
theorem rpk_map {k : κ} {x : D} {v : V} (r : Rp K H av x v) : ∀ {xs : List (κ × D)} {kvs : List (κ × V)}, kvs.map Prod.fst = xs.map Prod.fst → Rps K H av (xs.map Prod.snd) (kvs.map Prod.snd) →
    (kvs.map fun kv => if kv.1 = k then (kv.1, v) else kv).map Prod.fst = (xs.map fun kv => if kv.1 = k then (kv.1, x) else kv).map Prod.fst ∧ Rps K H av ((xs.map fun kv => if kv.1 = k then (kv.1, x) else kv).map Prod.snd) ((kvs.map fun kv => if kv.1 = k then (kv.1, v) else kv).map Prod.snd)
  | [], [], _, _ => ⟨rfl, .nil⟩
  | [], _ :: _, h, _ => by cases h
  | _ :: _, [], h, _ => by cases h
  | (k1, y) :: xs, (k2, u) :: kvs, h, rs => by
    rw [List.map_cons, List.map_cons] at h
    injection h with h1 h2
    have h1 : k2 = k1 := h1
    subst h1
    rw [List.map_cons, List.map_cons] at rs
    cases rs with
    | cons r1 r2 =>
      obtain ⟨i1, i2⟩ := rpk_map (k := k) r h2 r2
      simp only [List.map_cons]
      by_cases e : k2 = k
      · rw [if_pos e, if_pos e]
        exact ⟨by rw [i1], .cons r i2⟩
      · rw [if_neg e, if_neg e]
        exact ⟨by rw [i1], .cons r1 i2⟩
theorem rpk_put {k : κ} {x : D} {v : V} (r : Rp K H av x v) {xs : List (κ × D)} {kvs : List (κ × V)} (h : kvs.map Prod.fst = xs.map Prod.fst) (rs : Rps K H av (xs.map Prod.snd) (kvs.map Prod.snd)) :
    (putK kvs k v).map Prod.fst = (putG xs k x).map Prod.fst ∧ Rps K H av ((putG xs k x).map Prod.snd) ((putK kvs k v).map Prod.snd) := by
  unfold putK putG
  rw [any_key h]
  split
  · exact rpk_map r h rs
  · rw [List.map_append, List.map_append, List.map_append, List.map_append, h]
    exact ⟨rfl, rs.app (.cons r .nil)⟩
end
/-- d[k] = e on an own dict of numbers and texts -/
def wPut (i : Nat) (wi we : WE) : WS := fun D ρ => we ρ (fun y => wi ρ (fun k => match ρ[i]?, keyD k with
  | some (some (.own (.dK xs))), some k => xs.length < LL ∧ D.nx (ρ.set i (some (.own (.dK (putG xs k y)))))
  | _, _ => False) D.er) D.er
def isOwnK (ρ : PSt) (i : Nat) : Prop := ∃ xs, ρ[i]? = some (some (.own (.dK xs)))
theorem ds_put (i : Nat) {k : Nat} {x : Str} {px tpos : Pos} (hr : Room k X.A) (he : DE X W true e we) (hk : DE X W m c wc) (hN : X.N[i]? = some x := by rfl) (hv : Vis X.env.scope x := by first | exact Or.inl rfl | exact Or.inr (Or.inl rfl) | exact Or.inr (Or.inr rfl)) (hd : (x == ("__debug__" : Str)) = false := by decide) (hcd : (x == ("__classdict__" : Str)) = false := by decide)
    (hs : swapsWith e (some (.Subscript (.Name x px) c tpos)) pos.line X.env = pure false := by rfl) : DS X W (.Assign [.Subscript (.Name x px) c tpos] e pos) (fun D ρ => isOwnK ρ i ∧ wPut i wc we D ρ) :=
  ⟨PS.weak (ps_dput (hu_of hr) (pe_var hN hv hd hcd) hk.pe he.pe hs) fun Dn σ H ⟨g, H0, ρ, D0, R, ⟨⟨xs, ho⟩, hw⟩, ok⟩ => ⟨g, H0, ρ, _, D0.er, R, hw, fun y u H1 h1 e1 R1 r1 => by
    obtain ⟨a, k1, k2, k3, k4⟩ := R1.own i _ ho
    refine ⟨_, k1, g, H0, ρ, _, D0.er, R1, h1, fun k w H2 h2 e2 R2 r2 => ?_, ok.ek⟩
    rw [ho] at h2
    cases e4 : keyD k with
    | some k' =>
      rw [e4] at h2
      dsimp only at h2
      obtain ⟨a', j1, j2, j3, j4⟩ := R2.own i _ ho
      rw [k1] at j1
      cases j1
      cases j4 with
      | dK hl' hk' hr' =>
        rename_i kvs
        have ina : avS g ρ σ a := .inr ⟨i, _, ho, k1⟩
        have ea : ∀ o, (∀ ps, o ≠ .tbl ps) → Ext (fun b => b = a) H2 (upd H2 a o) := fun o no => ⟨fun b w q n _ => by rw [upd_ne n]; exact q, nt_upd (.of upd_same no)⟩
        have el : kvs.length = xs.length := by have q := congrArg List.length hk'; simpa using q
        obtain ⟨p1, p2⟩ := rpk_put (k := k') (r1.mono e2).full hk' hr'
        exact ⟨a, _, rfl, .inl ⟨_, k', hl', keyD_V R2 e4 r2, by rw [el]; exact ll_lt (Nat.le_of_lt h2.1), rfl⟩, ok.nx _ _ _ h2.2 (R2.write ho k1 (.dK upd_same p1 (p2.mono (ea _ fun _ z => by cases z) (fun b z => by rw [z]; exact ina) fun _ _ z => z)))⟩
    | none => rw [e4] at h2; exact h2.elim, ok.ek⟩⟩
end
end PL
end
section
set_option Elab.async false
set_option linter.all false
set_option maxRecDepth 100000
set_option maxHeartbeats 4000000
/-! The plain layer, 8: built-ins on data. -/
namespace PL
open PySem PySem.Spec PyProof.Rows L2
variable [TabList]

theorem Rps.bls {K : PySem.W.Frag} {H : Hp} {av : Addr → Prop} : ∀ {ns : List Bool} {vs : List V}, Rps K H av (ns.map D.bl) vs → vs = ns.map V.bl
  | [], _, .nil => rfl
  | n :: ns, _, .cons (.bl _) r => by rw [Rps.bls r]; rfl
section
variable {X : Cx} {W : WX} {m m1 m2 m3 : Bool} {a b c e o : Expr} {es : List Expr} {wa wb wc we wo : WE} {ws : WA} {pos p : Pos} {K : PySem.W.Frag}
/-! ### numbers -/
def fAbs : List D → (D → Prop) → Prop := fun xs Q => match xs with
  | [.int i] => Q (.int (if i < 0 then -i else i))
  | _ => False
def fInt : List D → (D → Prop) → Prop := fun xs Q => match xs with
  | [.int i] => Q (.int i)
  | [.bl k] => Q (.int (if k then 1 else 0))
  | _ => False
def fStr : List D → (D → Prop) → Prop := fun xs Q => match xs with
  | [.int i] => i.natAbs.log2 < 1920 ∧ Q (.str (toString i))
  | _ => False
def fMin2 : List D → (D → Prop) → Prop := fun xs Q => match xs with
  | [.int i, .int j] => Q (.int (if j < i then j else i))
  | _ => False
def fMax2 : List D → (D → Prop) → Prop := fun xs Q => match xs with
  | [.int i, .int j] => Q (.int (if j > i then j else i))
  | _ => False
theorem de_abs {x : Str} (ha : DA X W m1 (e :: es) ws) (hm : X.mg x = none) (hv : bootBuiltins x = some (.builtin "abs")) (hg : Gl X x := by rfl) (hn : x ≠ "__name__" := by decide) (hdb : (x == ("__debug__" : Str)) = false := by decide)
    (he : starEach (e :: es) X.env = (false, eval e X.env) :: starEach es X.env := by rfl) (hpl : (backTo pos (starEach es X.env)).any (·.1) = false := by rfl) : DE X W m (.Call (.Name x p) (e :: es) [] pos) (wF fAbs ws) :=
  de_callB call_abs (fun g H0 ρ σ H xs vs Q0 Q R hf r k => by
    unfold fAbs at hf
    split at hf
    · cases r with
      | cons r rr =>
        cases rr
        cases r.int R
        exact ⟨_, rfl, k _ _ H hf (Evl.Ex.refl H) (.inl (.int _))⟩
    · exact hf.elim) hm hv ha hg hn hdb he hpl
theorem de_intc {x : Str} (ha : DA X W m1 (e :: es) ws) (hm : X.mg x = none) (hv : bootBuiltins x = some (.type "int")) (hg : Gl X x := by rfl) (hn : x ≠ "__name__" := by decide) (hdb : (x == ("__debug__" : Str)) = false := by decide)
    (he : starEach (e :: es) X.env = (false, eval e X.env) :: starEach es X.env := by rfl) (hpl : (backTo pos (starEach es X.env)).any (·.1) = false := by rfl) : DE X W m (.Call (.Name x p) (e :: es) [] pos) (wF fInt ws) :=
  de_callTy call_int1 (fun g H0 ρ σ H xs vs Q0 Q R hf r k => by
    unfold fInt at hf
    split at hf
    · cases r with
      | cons r rr =>
        cases rr
        cases r.int R
        exact .inl ⟨_, rfl, k _ _ H hf (Evl.Ex.refl H) (.inl (.int _))⟩
    · cases r with
      | cons r rr =>
        cases rr
        cases r.bl R
        exact .inr ⟨_, rfl, k _ _ H hf (Evl.Ex.refl H) (.inl (.int _))⟩
    · exact hf.elim) hm hv ha hg hn hdb he hpl
theorem de_strc {x : Str} (ha : DA X W m1 (e :: es) ws) (hm : X.mg x = none) (hv : bootBuiltins x = some (.type "str")) (hg : Gl X x := by rfl) (hn : x ≠ "__name__" := by decide) (hdb : (x == ("__debug__" : Str)) = false := by decide)
    (he : starEach (e :: es) X.env = (false, eval e X.env) :: starEach es X.env := by rfl) (hpl : (backTo pos (starEach es X.env)).any (·.1) = false := by rfl) : DE X W m (.Call (.Name x p) (e :: es) [] pos) (wF fStr ws) :=
  de_callTy call_str_int (fun g H0 ρ σ H xs vs Q0 Q R hf r k => by
    unfold fStr at hf
    split at hf
    · cases r with
      | cons r rr =>
        cases rr
        cases r.int R
        exact ⟨_, rfl, hf.1, k _ _ H hf.2 (Evl.Ex.refl H) (.inl (.str _))⟩
    · exact hf.elim) hm hv ha hg hn hdb he hpl
theorem de_min2 {x : Str} (ha : DA X W m1 (e :: es) ws) (hm : X.mg x = none) (hv : bootBuiltins x = some (.builtin "min")) (hc : X.calm = true := by rfl) (hg : Gl X x := by rfl) (hn : x ≠ "__name__" := by decide) (hdb : (x == ("__debug__" : Str)) = false := by decide)
    (he : starEach (e :: es) X.env = (false, eval e X.env) :: starEach es X.env := by rfl) (hpl : (backTo pos (starEach es X.env)).any (·.1) = false := by rfl) : DE X W m (.Call (.Name x p) (e :: es) [] pos) (wF fMin2 ws) :=
  de_callB (call_min2 hc) (fun g H0 ρ σ H xs vs Q0 Q R hf r k => by
    unfold fMin2 at hf
    split at hf
    · cases r with
      | cons r rr =>
        cases rr with
        | cons r2 rr =>
          cases rr
          cases r.int R
          cases r2.int R
          exact ⟨_, _, rfl, k _ _ H hf (Evl.Ex.refl H) (.inl (.int _))⟩
    · exact hf.elim) hm hv ha hg hn hdb he hpl
theorem de_max2 {x : Str} (ha : DA X W m1 (e :: es) ws) (hm : X.mg x = none) (hv : bootBuiltins x = some (.builtin "max")) (hc : X.calm = true := by rfl) (hg : Gl X x := by rfl) (hn : x ≠ "__name__" := by decide) (hdb : (x == ("__debug__" : Str)) = false := by decide)
    (he : starEach (e :: es) X.env = (false, eval e X.env) :: starEach es X.env := by rfl) (hpl : (backTo pos (starEach es X.env)).any (·.1) = false := by rfl) : DE X W m (.Call (.Name x p) (e :: es) [] pos) (wF fMax2 ws) :=
  de_callB (call_max2 hc) (fun g H0 ρ σ H xs vs Q0 Q R hf r k => by
    unfold fMax2 at hf
    split at hf
    · cases r with
      | cons r rr =>
        cases rr with
        | cons r2 rr =>
          cases rr
          cases r.int R
          cases r2.int R
          exact ⟨_, _, rfl, k _ _ H hf (Evl.Ex.refl H) (.inl (.int _))⟩
    · exact hf.elim) hm hv ha hg hn hdb he hpl

/-! ### len, sum, all, any, tuple, list, sorted, dict -/
def fLen : List D → (D → Prop) → Prop := fun xs Q => match xs with
  | [.str s] => s.length ≤ LL ∧ Q (.int s.length)
  | [.lst xs] => Q (.int xs.length)
  | [.tup xs] => Q (.int xs.length)
  | [.dK xs] => Q (.int xs.length)
  | _ => False
theorem de_len {x : Str} (ha : DA X W m1 (e :: es) ws) (hm : X.mg x = none) (hv : bootBuiltins x = some (.builtin "len")) (hg : Gl X x := by rfl) (hn : x ≠ "__name__" := by decide) (hdb : (x == ("__debug__" : Str)) = false := by decide)
    (he : starEach (e :: es) X.env = (false, eval e X.env) :: starEach es X.env := by rfl) (hpl : (backTo pos (starEach es X.env)).any (·.1) = false := by rfl) : DE X W m (.Call (.Name x p) (e :: es) [] pos) (wF fLen ws) :=
  de_callB (CallR.or call_len call_lenD) (fun g H0 ρ σ H xs vs Q0 Q R hf r k => by
    unfold fLen at hf
    split at hf
    · cases r with
      | cons r rr =>
        cases rr
        cases r.str R
        exact .inl ⟨_, _, rfl, ⟨ll_le hf.1, rfl⟩, k _ _ H hf.2 (Evl.Ex.refl H) (.inl (.int _))⟩
    · cases r with
      | cons r rr =>
        cases rr
        obtain ⟨a, ws, rfl, hl, hr⟩ := r.lst R
        exact .inl ⟨_, _, rfl, .inl ⟨_, .inl (.inl hl), rfl⟩, k _ _ H hf (Evl.Ex.refl H) (by rw [hr.length]; exact .inl (.int _))⟩
    · cases r with
      | cons r rr =>
        cases rr
        obtain ⟨a, ws, rfl, hl, hr⟩ := r.tup R
        exact .inl ⟨_, _, rfl, .inr ⟨_, hl, rfl⟩, k _ _ H hf (Evl.Ex.refl H) (by rw [hr.length]; exact .inl (.int _))⟩
    · cases r with
      | cons r rr =>
        cases rr
        obtain ⟨a, ws, rfl, hl, hk, hr⟩ := r.dK R
        refine .inr ⟨_, _, rfl, hl, k _ _ H hf (Evl.Ex.refl H) ?_⟩
        have el := congrArg List.length hk
        rw [List.length_map, List.length_map] at el
        rw [el]
        exact .inl (.int _)
    · exact hf.elim) hm hv ha hg hn hdb he hpl
def fSum : List D → (D → Prop) → Prop := fun xs Q => ∃ ns : List Int, xs = [.lst (ns.map .int)] ∧ Q (.int ns.sum)
theorem de_sum {x : Str} (ha : DA X W m1 (e :: es) ws) (hm : X.mg x = none) (hv : bootBuiltins x = some (.builtin "sum")) (hc : X.calm = true := by rfl) (hg : Gl X x := by rfl) (hn : x ≠ "__name__" := by decide) (hdb : (x == ("__debug__" : Str)) = false := by decide)
    (he : starEach (e :: es) X.env = (false, eval e X.env) :: starEach es X.env := by rfl) (hpl : (backTo pos (starEach es X.env)).any (·.1) = false := by rfl) : DE X W m (.Call (.Name x p) (e :: es) [] pos) (wF fSum ws) :=
  de_callB (cr_sum hc) (fun g H0 ρ σ H xs vs Q0 Q R ⟨ns, e1, hf⟩ r k => by
    subst e1
    cases r with
    | cons r rr =>
      cases rr
      obtain ⟨a, ws, rfl, hl, hr⟩ := r.lst R
      rw [hr.ints] at hl
      exact ⟨_, _, rfl, .inl (.inl hl), k _ _ H hf (Evl.Ex.refl H) (.inl (.int _))⟩) hm hv ha hg hn hdb he hpl
def fAll : List D → (D → Prop) → Prop := fun xs Q => ∃ ns : List Bool, xs = [.lst (ns.map .bl)] ∧ Q (.bl (ns.all id))
def fAny : List D → (D → Prop) → Prop := fun xs Q => ∃ ns : List Bool, xs = [.lst (ns.map .bl)] ∧ Q (.bl (ns.any id))
theorem de_all {x : Str} (ha : DA X W m1 (e :: es) ws) (hm : X.mg x = none) (hv : bootBuiltins x = some (.builtin "all")) (hc : X.calm = true := by rfl) (hg : Gl X x := by rfl) (hn : x ≠ "__name__" := by decide) (hdb : (x == ("__debug__" : Str)) = false := by decide)
    (he : starEach (e :: es) X.env = (false, eval e X.env) :: starEach es X.env := by rfl) (hpl : (backTo pos (starEach es X.env)).any (·.1) = false := by rfl) : DE X W m (.Call (.Name x p) (e :: es) [] pos) (wF fAll ws) :=
  de_callB (cr_all hc) (fun g H0 ρ σ H xs vs Q0 Q R ⟨ns, e1, hf⟩ r k => by
    subst e1
    cases r with
    | cons r rr =>
      cases rr
      obtain ⟨a, ws, rfl, hl, hr⟩ := r.lst R
      rw [hr.bls] at hl
      exact ⟨_, _, rfl, .inl (.inl hl), k _ _ H hf (Evl.Ex.refl H) (.inl (.bl _))⟩) hm hv ha hg hn hdb he hpl
theorem de_any {x : Str} (ha : DA X W m1 (e :: es) ws) (hm : X.mg x = none) (hv : bootBuiltins x = some (.builtin "any")) (hc : X.calm = true := by rfl) (hg : Gl X x := by rfl) (hn : x ≠ "__name__" := by decide) (hdb : (x == ("__debug__" : Str)) = false := by decide)
    (he : starEach (e :: es) X.env = (false, eval e X.env) :: starEach es X.env := by rfl) (hpl : (backTo pos (starEach es X.env)).any (·.1) = false := by rfl) : DE X W m (.Call (.Name x p) (e :: es) [] pos) (wF fAny ws) :=
  de_callB (cr_any hc) (fun g H0 ρ σ H xs vs Q0 Q R ⟨ns, e1, hf⟩ r k => by
    subst e1
    cases r with
    | cons r rr =>
      cases rr
      obtain ⟨a, ws, rfl, hl, hr⟩ := r.lst R
      rw [hr.bls] at hl
      exact ⟨_, _, rfl, .inl (.inl hl), k _ _ H hf (Evl.Ex.refl H) (.inl (.bl _))⟩) hm hv ha hg hn hdb he hpl
def fTuple : List D → (D → Prop) → Prop := fun xs Q => match xs with
  | [.lst xs] => Q (.tup xs)
  | [.tup xs] => Q (.tup xs)
  | _ => False
theorem de_tuple {x : Str} (ha : DA X W m1 (e :: es) ws) (hm : X.mg x = none) (hv : bootBuiltins x = some (.type "tuple")) (hg : Gl X x := by rfl) (hn : x ≠ "__name__" := by decide) (hdb : (x == ("__debug__" : Str)) = false := by decide)
    (he : starEach (e :: es) X.env = (false, eval e X.env) :: starEach es X.env := by rfl) (hpl : (backTo pos (starEach es X.env)).any (·.1) = false := by rfl) : DE X W m (.Call (.Name x p) (e :: es) [] pos) (wF fTuple ws) :=
  de_callTy call_tuple_of (fun g H0 ρ σ H xs vs Q0 Q R hf r k => by
    unfold fTuple at hf
    split at hf
    · cases r with
      | cons r rr =>
        cases rr
        obtain ⟨a, ws, rfl, hl, hr⟩ := r.lst R
        refine ⟨_, _, rfl, .inl ⟨.inl (.inl hl), fun q hq => k _ _ _ hf (Evl.Ex.new hq) (.inl (.tup (.inl ⟨.inl upd_same, R.fresh (nnt hq)⟩) (hr.mono (Ext.new hq) Rel.chS fun _ _ z => z)))⟩⟩
    · cases r with
      | cons r rr =>
        cases rr
        obtain ⟨a, ws, e0, hl, hr⟩ := r.tup R
        rw [e0] at r
        rw [e0]
        refine ⟨_, _, rfl, .inr ⟨hl, k _ _ _ hf (Evl.Ex.refl H) ?_⟩⟩
        rcases r.cases R with z | ⟨_, _, z⟩
        · exact .inl z
        · cases z
    · exact hf.elim) hm hv ha hg hn hdb he hpl
def keyOf : Key → D
  | .inl i => .int i
  | .inr s => .str s
theorem Rps.keys {K : PySem.W.Frag} {H : Hp} {av : Addr → Prop} {α β : Type} : ∀ {kvs : List (Key × α)} {xs : List (Key × β)}, kvs.map Prod.fst = xs.map Prod.fst → Rps K H av (xs.map fun kv => keyOf kv.1) (kvs.map fun kv => kV kv.1)
  | [], [], _ => .nil
  | [], _ :: _, h => by cases h
  | _ :: _, [], h => by cases h
  | (k1, x) :: xs, (k2, v) :: kvs, h => by
    rw [List.map_cons, List.map_cons] at h
    injection h with h1 h2
    have h1 : k1 = k2 := h1
    subst h1
    refine .cons ?_ (Rps.keys h2)
    cases k1
    · exact .int _
    · exact .str _
def fListK : List D → (D → Prop) → Prop := fun xs Q => match xs with
  | [.dK xs] => Q (.lst (xs.map fun kv => keyOf kv.1))
  | _ => False
theorem df_listK {x : Str} (ha : DA X W m1 (e :: es) ws) (hm : X.mg x = none) (hv : bootBuiltins x = some (.type "list")) (hc : X.calm = true := by rfl) (hg : Gl X x := by rfl) (hn : x ≠ "__name__" := by decide) (hdb : (x == ("__debug__" : Str)) = false := by decide)
    (he : starEach (e :: es) X.env = (false, eval e X.env) :: starEach es X.env := by rfl) (hpl : (backTo pos (starEach es X.env)).any (·.1) = false := by rfl) : DF X W (.Call (.Name x p) (e :: es) [] pos) (wF fListK ws) :=
  df_callTy (call_list_dK hc) (fun g H0 ρ σ H xs vs Q0 Q R hf r k => by
    unfold fListK at hf
    split at hf
    · cases r with
      | cons r rr =>
        cases rr
        obtain ⟨a, ws, rfl, hl, hk, hr⟩ := r.dK R
        exact ⟨_, _, rfl, hl, fun q hq => k _ _ _ hf (Evl.Ex.new hq) (nnt hq) (.lst upd_same (Rps.keys hk))⟩
    · exact hf.elim) hm hv ha hg hn hdb he hpl
def fListS : List D → (D → Prop) → Prop := fun xs Q => match xs with
  | [.lst xs] => Q (.lst xs)
  | [.tup xs] => Q (.lst xs)
  | _ => False
theorem df_list {x : Str} (ha : DA X W m1 (e :: es) ws) (hm : X.mg x = none) (hv : bootBuiltins x = some (.type "list")) (hg : Gl X x := by rfl) (hn : x ≠ "__name__" := by decide) (hdb : (x == ("__debug__" : Str)) = false := by decide)
    (he : starEach (e :: es) X.env = (false, eval e X.env) :: starEach es X.env := by rfl) (hpl : (backTo pos (starEach es X.env)).any (·.1) = false := by rfl) : DF X W (.Call (.Name x p) (e :: es) [] pos) (wF fListS ws) :=
  df_callTy call_list_of (fun g H0 ρ σ H xs vs Q0 Q R hf r k => by
    unfold fListS at hf
    split at hf
    · cases r with
      | cons r rr =>
        cases rr
        obtain ⟨a, ws, rfl, hl, hr⟩ := r.lst R
        exact ⟨_, _, rfl, .inl (.inl (.inl hl)), fun q hq => k _ _ _ hf (Evl.Ex.new hq) (nnt hq) (.lst upd_same (hr.mono (Ext.new hq) Rel.chS (avP_new (nnt hq))))⟩
    · cases r with
      | cons r rr =>
        cases rr
        obtain ⟨a, ws, rfl, hl, hr⟩ := r.tup R
        exact ⟨_, _, rfl, .inr hl, fun q hq => k _ _ _ hf (Evl.Ex.new hq) (nnt hq) (.lst upd_same (hr.mono (Ext.new hq) Rel.chS (avP_new (nnt hq))))⟩
    · exact hf.elim) hm hv ha hg hn hdb he hpl
/-- sorted numbers: any sorted rearrangement (there is but one) -/
def fSorted : List D → (D → Prop) → Prop := fun xs Q => ∃ ns : List Int, xs = [.lst (ns.map .int)] ∧ ∀ ns' : List Int, ns'.Perm ns → ns'.Pairwise (· ≤ ·) → Q (.lst (ns'.map .int))
theorem df_sorted {x : Str} (ha : DA X W m1 (e :: es) ws) (hm : X.mg x = none) (hv : bootBuiltins x = some (.builtin "sorted")) (hg : Gl X x := by rfl) (hn : x ≠ "__name__" := by decide) (hdb : (x == ("__debug__" : Str)) = false := by decide)
    (he : starEach (e :: es) X.env = (false, eval e X.env) :: starEach es X.env := by rfl) (hpl : (backTo pos (starEach es X.env)).any (·.1) = false := by rfl) : DF X W (.Call (.Name x p) (e :: es) [] pos) (wF fSorted ws) :=
  df_callB cr_sortedI (fun g H0 ρ σ H xs vs Q0 Q R ⟨ns, e1, hf⟩ r k => by
    subst e1
    cases r with
    | cons r rr =>
      cases rr
      obtain ⟨a, ws, rfl, hl, hr⟩ := r.lst R
      rw [hr.ints] at hl
      exact ⟨_, _, rfl, .inl (.inl hl), fun ns' q h1 h2 hq => k _ _ _ (hf ns' h1 h2) (Evl.Ex.new hq) (nnt hq) (.lst upd_same (Rps.of_ints ns'))⟩) hm hv ha hg hn hdb he hpl
theorem df_dict0 : DF X W (.Dict [] [] pos) (fun _ Q _ => Q (.dK [])) := ⟨PE.weak pe_dnewK fun σ H Q ⟨g, H0, ρ, Q0, E0, R, hw, hq, he⟩ => fun q hn => hq _ q _ hw (Ext.new hn) (R.new hn) (nnt hn) (.dK upd_same rfl .nil)⟩

/-! ### isinstance -/
def tyD : D → Option String
  | .non => some "NoneType"
  | .bl _ => some "bool"
  | .int _ => some "int"
  | .str _ => some "str"
  | .tup _ => some "tuple"
  | .lst _ => some "list"
  | .dK _ => some "dict"
  | .dT _ => some "dict"
  | _ => none
def isS (n t : String) : Bool := n == t || (n == "bool" && t == "int")
def tyNs : List String := ["bool", "int", "str", "tuple", "list", "dict"]
theorem kit_ty {n t : String} (h : n ∈ "NoneType" :: tyNs) (ht : t ∈ tyNs) : PySem.W.kitOne K (.type n) (.type t) = some (isS n t) := by
  simp only [tyNs, List.mem_cons, List.mem_nil_iff, or_false] at h ht
  rcases h with rfl | rfl | rfl | rfl | rfl | rfl | rfl <;> rcases ht with rfl | rfl | rfl | rfl | rfl | rfl <;> first | rfl | decide +kernel | skip
theorem tyx {g : G} {H0 : Bs} {H : Hp} {ρ : PSt} {σ : L2.St} {x : D} {v : V} {n : String} (R : Rel K g H0 ρ σ H) (h : tyD x = some n) (r : RpM m K H g ρ σ x v) : TyX K H v (.type n) := by
  rcases r.cases R with r2 | ⟨a, rfl, r2⟩
  · cases r2 with
    | non => cases h; exact .base .non
    | bl _ => cases h; exact .base (.bl _)
    | int _ => cases h; exact .base (.int _)
    | str _ => cases h; exact .base (.str _)
    | ty _ => cases h
    | ref _ => cases h
    | hnd _ _ _ _ => cases h
    | scr _ => cases h
    | tup hl r =>
      cases h
      rcases hl with ⟨hl | ⟨o, hl⟩, _⟩ | ⟨o, its, k, h1, h2, _⟩
      · exact .base (.tup hl)
      · exact .fTuple hl
      · exact .kTuple h1 h2
    | lst hl _ _ => cases h; exact .base (.lst hl)
    | dK hl _ _ _ => cases h; exact .base (.dK hl)
    | dT hl _ _ _ => cases h; exact .base (.dT hl)
    | obj _ _ _ _ => cases h
  · cases r2 with
    | lst hl _ => cases h; exact .base (.lst hl)
    | dK hl _ _ => cases h; exact .base (.dK hl)
    | dT hl _ _ => cases h; exact .base (.dT hl)
theorem tyD_mem {x : D} {n : String} (h : tyD x = some n) : n ∈ "NoneType" :: tyNs := by
  cases x <;> cases h <;> decide
def fIsi : List D → (D → Prop) → Prop := fun xs Q => match xs with
  | [x, .ty t] => ∃ n, tyD x = some n ∧ t ∈ tyNs ∧ Q (.bl (isS n t))
  | _ => False
theorem de_isi {x : Str} (ha : DA X W m1 (e :: es) ws) (hm : X.mg x = none) (hv : bootBuiltins x = some (.builtin "isinstance")) (hg : Gl X x := by rfl) (hn : x ≠ "__name__" := by decide) (hdb : (x == ("__debug__" : Str)) = false := by decide)
    (he : starEach (e :: es) X.env = (false, eval e X.env) :: starEach es X.env := by rfl) (hpl : (backTo pos (starEach es X.env)).any (·.1) = false := by rfl) : DE X W m (.Call (.Name x p) (e :: es) [] pos) (wF fIsi ws) :=
  de_callB call_isi (fun g H0 ρ σ H xs vs Q0 Q R hf r k => by
    unfold fIsi at hf
    split at hf
    · rename_i x t
      obtain ⟨n, h1, h2, h3⟩ := hf
      cases r with
      | cons r rr =>
        cases rr with
        | cons r2 rr =>
          cases rr
          rw [r2.ty R]
          exact ⟨_, _, _, _, _, rfl, .ty t, tyx R h1 r, kit_ty (tyD_mem h1) h2, k _ _ H h3 (Evl.Ex.refl H) (.inl (.bl _))⟩
    · exact hf.elim) hm hv ha hg hn hdb he hpl
end
end PL
end
section
set_option Elab.async false
set_option linter.all false
set_option maxRecDepth 100000
set_option maxHeartbeats 4000000
/-! The plain layer, 9: more built-ins; dicts; errors. -/
namespace PL
open PySem PySem.Spec PyProof.Rows L2
variable [TabList]

section
variable {X : Cx} {W : WX} {m m1 m2 m3 : Bool} {a b c e o f : Expr} {es : List Expr} {wa wb wc we wo wf : WE} {ws : WA} {pos p : Pos} {K : PySem.W.Frag}
/-! ### isinstance of one of several -/
def wIsiT (we : WE) (ws : WA) : WE := fun ρ Q E => we ρ (fun x => ws ρ (fun cs => ∃ (n : String) (ts : List String), tyD x = some n ∧ cs = ts.map D.ty ∧ (∀ t ∈ ts, t ∈ tyNs) ∧ cs.length ≤ LL ∧ Q (.bl (ts.any (isS n)))) E) E
theorem Rps.tys {H : Hp} {av : Addr → Prop} : ∀ {ns : List String} {vs : List V}, Rps K H av (ns.map D.ty) vs → vs = ns.map V.ty
  | [], _, .nil => rfl
  | n :: ns, _, .cons (.ty _) r => by rw [Rps.tys r]; rfl
theorem cls_tys : ∀ ts : List String, Paired ClsV (ts.map V.ty) (ts.map Value.type)
  | [] => .nil
  | t :: ts => .cons (.ty t) (cls_tys ts)
theorem kit_any {n : String} (h : n ∈ "NoneType" :: tyNs) : ∀ {ts : List String}, (∀ t ∈ ts, t ∈ tyNs) → PySem.W.kitAny K (.type n) (ts.map Value.type) = some (ts.any (isS n))
  | [], _ => rfl
  | t :: ts, ht => by
    rw [List.map_cons, List.any_cons]
    unfold PySem.W.kitAny
    rw [kit_ty h (ht t List.mem_cons_self)]
    cases isS n t
    · exact kit_any h fun t q => ht t (List.mem_cons_of_mem _ q)
    · rfl
theorem de_isiT {x : Str} {j : Nat} {tp : Pos} (he : DE X W m1 e we) (hs : DA X W true es ws) (hm : X.mg x = none) (hv : bootBuiltins x = some (.builtin "isinstance")) (hg : Gl X x := by rfl) (hn : x ≠ "__name__" := by decide) (hdb : (x == ("__debug__" : Str)) = false := by decide)
    (h1 : starEach [e, .Tuple es j tp] X.env = (false, eval e X.env) :: starEach [.Tuple es j tp] X.env := by rfl) (h2 : starEach [.Tuple es j tp] X.env = (false, eval (.Tuple es j tp) X.env) :: starEach [] X.env := by rfl) (hpl : (backTo pos (starEach [.Tuple es j tp] X.env)).any (·.1) = false := by rfl) :
    DE X W m (.Call (.Name x p) [e, .Tuple es j tp] [] pos) (wIsiT we ws) :=
  ⟨PE.weak (pe_callB call_isiT hg hm hv (pa_cons he.pe (pa_cons (pe_tup hs.pa) pa_nil h2) h1) hn hdb h1 hpl) fun σ H Q ⟨g, H0, ρ, Q0, E0, R, hw, hq, he⟩ => ⟨g, H0, ρ, _, E0, R, hw, fun x v H1 k1 e1 R1 r1 => ⟨g, H0, ρ, _, E0, R1, k1, fun cs vs H2 ⟨n, ts, j1, j2, j3, j4, j5⟩ e2 R2 r2 => by
    subst j2
    have r3 := r2.full.tys
    subst r3
    refine ⟨by rw [List.length_map] at j4 ⊢; exact ll_le j4, fun q hq0 => ?_⟩
    exact ⟨v, q, _, _, _, _, rfl, upd_same, cls_tys ts, tyx (R2.new hq0) j1 ((r1.mono e2).mono (Ext.new hq0)), kit_any (tyD_mem j1) j3, hq _ _ _ j5 ((e1.trans e2).trans (.new hq0)) (R2.new hq0) (.inl (.bl _))⟩, he.later e1⟩, he⟩⟩

/-! ### count and index of flat things -/
def flatD : D → Bool
  | .non => true
  | .bl _ => true
  | .int _ => true
  | .str _ => true
  | _ => false
theorem Rp.flat {H : Hp} {av : Addr → Prop} {x : D} {v : V} (r : Rp K H av x v) (h : flatD x = true) : flatV v = true := by
  cases r <;> first | rfl | cases h
theorem Rps.flat {H : Hp} {av : Addr → Prop} : ∀ {xs : List D} {vs : List V}, Rps K H av xs vs → xs.all flatD = true → vs.all flatV = true
  | _, _, .nil, _ => rfl
  | _, _, .cons r rs, h => by
    rw [List.all_cons, Bool.and_eq_true] at h
    rw [List.all_cons, r.flat h.1, rs.flat h.2]; rfl
theorem Rp.eqv {H : Hp} {av av' : Addr → Prop} {x y : D} {v u : V} (r : Rp K H av x v) (r' : Rp K H av' y u) (h : flatD x = true) (h' : flatD y = true) : eqV v u = eqD x y := by
  cases r <;> first | (cases h; done) | skip
  all_goals (cases r' <;> first | (cases h'; done) | skip)
  all_goals first | rfl | (unfold eqV eqD; first | exact beqd _ _ | rfl)
theorem Rps.countE {H : Hp} {av av' : Addr → Prop} {y : D} {u : V} (r' : Rp K H av' y u) (h' : flatD y = true) : ∀ {xs : List D} {vs : List V}, Rps K H av xs vs → xs.all flatD = true → vs.countP (fun z => eqV z u) = xs.countP fun z => eqD z y
  | _, _, .nil, _ => rfl
  | _, _, .cons r rs, h => by
    rw [List.all_cons, Bool.and_eq_true] at h
    rw [List.countP_cons, List.countP_cons, rs.countE r' h' h.2, r.eqv r' h.1 h']
def rCntF (K : PySem.W.Frag) : V → List V → Hp → VK → Prop := fun x xs H Q => ∃ (q : Addr) (ys : List V) (y : V), x = .ref q ∧ xs = [y] ∧ SqL K H q ys ∧ flatV y = true ∧ ys.all flatV = true ∧ Q (.int (ys.countP (fun z => eqV z y) : Nat)) H
theorem count_eqU {x : V} : ∀ {xs : List V} {us : List Value}, Vals xs us → xs.all flatV = true → us.countP (eqU x) = xs.countP fun y => eqV y x
  | _, _, .nil, _ => rfl
  | y :: xs, u :: us, .cons r t, f => by
    rw [List.all_cons, Bool.and_eq_true] at f
    rw [List.countP_cons, List.countP_cons, eqU_of r f.1, count_eqU t f.2]
theorem mt_countF : MtR X "list.count" (rCntF X.K) := by
  intro pins s σ H x xs v us Q I rx rxs h
  obtain ⟨q, ys, y, rfl, rfl, hs, fy, fys, q0⟩ := h
  cases rx
  cases rxs with
  | cons ry rt =>
    rename_i uy ut
    cases rt
    obtain ⟨its, rv, ⟨⟨cls, dd, data, sl⟩, n, ho, hc, hdn, hd⟩, hlen⟩ := I.list hs
    simp only at hc hd
    subst hc hd
    refine call_meets PySem.F.slot_list_count ⟨_, ho, rfl⟩ PySem.F.entry_list_count (PySem.F.args_list_count_2 _ _)
      (SeqAt.list_countAt q its.toArray n dd sl uy (eqU y)) ⟨ho, fun u' hu' => mem_eqAt ry fy rv fys u' (by simpa using hu'), ?_⟩
    have ec : its.toArray.toList.countP (eqU y) = ys.countP fun z => eqV z y := count_eqU rv fys
    refine ⟨.int (ys.countP (fun z => eqV z y) : Nat), H, I.tok _, ⟨s.toks, ?_⟩, q0⟩
    show Value.int ((its.toArray.toList.countP (eqU y) : Nat) : Int) s.toks = Value.int _ s.toks
    rw [ec]
def wMeth (f : D → D → (D → Prop) → Prop) (wo we : WE) : WE := fun ρ Q E => wo ρ (fun x => match x with
  | .lst xs => we ρ (fun y => f (.lst xs) y Q) E
  | _ => False) E
def fCount : D → D → (D → Prop) → Prop := fun x y Q => match x with
  | .lst xs => xs.all flatD = true ∧ flatD y = true ∧ Q (.int (xs.countP (fun z => eqD z y) : Nat))
  | _ => False
theorem RpM.flatp {g : G} {H0 : Bs} {H : Hp} {ρ : PSt} {σ : L2.St} {x : D} {v : V} (R : Rel K g H0 ρ σ H) (r : RpM m K H g ρ σ x v) (h : flatD x = true) : Rp K H (avS g ρ σ) x v := by
  rcases r.cases R with r2 | ⟨a, rfl, r2⟩
  · exact r2
  · cases r2 with
    | lst _ _ => exact nomatch (show false = true from h)
    | dK _ _ _ => exact nomatch (show false = true from h)
    | dT _ _ _ => exact nomatch (show false = true from h)
theorem de_count {apos cpos : Pos} (ho : DE X W m1 o wo) (he : DE X W m2 e we) (hbase : attributeBase o "count" X.env (eval o X.env) = eval o X.env := by rfl)
    (hfew : ((backTo cpos (starEach [e] X.env)).all (fun x => !x.1) && (backToKw cpos (keywordEach [] X.env)).all (fun x => x.1.isSome) && decide (([e] : List Expr).length + ([] : List Keyword).length + (if ([] : List Keyword).isEmpty then 0 else 1) < 30)) = true := by rfl)
    (hline : (apos.endLine == cpos.line) = true := by rfl) (hs : starEach [e] X.env = (false, eval e X.env) :: starEach [] X.env := by rfl) (hplain : (backTo cpos (starEach [] X.env)).any (·.1) = false := by rfl) :
    DE X W m (.Call (.Attribute o "count" apos) [e] [] cpos) (wMeth fCount wo we) :=
  ⟨PE.weak (pe_bm PySem.F.plainAttrs_list PySem.F.slot_list_count PySem.F.type_list_count mt_countF ho.pe (pa_cons he.pe pa_nil hs) hbase hfew hline hs hplain) fun σ H Q ⟨g, H0, ρ, Q0, E0, R, hw, hq, he⟩ => ⟨g, H0, ρ, _, E0, R, hw, fun x v H1 k1 e1 R1 r1 => by
    split at k1
    · rename_i xs
      obtain ⟨l, vs, rfl, hl, hr⟩ := r1.lst R1
      refine ⟨.inl ⟨rfl, _, .inl (.inl hl)⟩, g, H0, ρ, _, E0, R1, k1, fun y u H2 k2 e2 R2 r2 => ?_, he.later e1⟩
      obtain ⟨j1, j2, j3⟩ := k2
      obtain ⟨l', vs', e3, hl', hr'⟩ := (r1.mono e2).lst R2
      cases e3
      have rf := r2.flatp R2 j2
      exact ⟨_, _, _, rfl, rfl, .inl (.inl hl'), rf.flat j2, hr'.flat j1, hq _ _ _ j3 (e1.trans e2) R2 (by rw [hr'.countE rf j2 j1]; exact .inl (.int _))⟩
    · exact k1.elim, he⟩⟩
def fIndex : D → D → (D → Prop) → Prop := fun x y Q => match x with
  | .lst xs => xs.all flatD = true ∧ flatD y = true ∧ ∃ j z, xs[j]? = some z ∧ eqD z y = true ∧ (∀ k z, k < j → xs[k]? = some z → eqD z y = false) ∧ Q (.int (j : Nat))
  | _ => False
theorem de_index {apos cpos : Pos} (ho : DE X W m1 o wo) (he : DE X W m2 e we) (hbase : attributeBase o "index" X.env (eval o X.env) = eval o X.env := by rfl)
    (hfew : ((backTo cpos (starEach [e] X.env)).all (fun x => !x.1) && (backToKw cpos (keywordEach [] X.env)).all (fun x => x.1.isSome) && decide (([e] : List Expr).length + ([] : List Keyword).length + (if ([] : List Keyword).isEmpty then 0 else 1) < 30)) = true := by rfl)
    (hline : (apos.endLine == cpos.line) = true := by rfl) (hs : starEach [e] X.env = (false, eval e X.env) :: starEach [] X.env := by rfl) (hplain : (backTo cpos (starEach [] X.env)).any (·.1) = false := by rfl) :
    DE X W m (.Call (.Attribute o "index" apos) [e] [] cpos) (wMeth fIndex wo we) :=
  ⟨PE.weak (pe_bm PySem.F.plainAttrs_list PySem.F.slot_list_index PySem.F.type_list_index mt_index ho.pe (pa_cons he.pe pa_nil hs) hbase hfew hline hs hplain) fun σ H Q ⟨g, H0, ρ, Q0, E0, R, hw, hq, he⟩ => ⟨g, H0, ρ, _, E0, R, hw, fun x v H1 k1 e1 R1 r1 => by
    split at k1
    · rename_i xs
      obtain ⟨l, vs, rfl, hl, hr⟩ := r1.lst R1
      refine ⟨.inl ⟨rfl, _, .inl (.inl hl)⟩, g, H0, ρ, _, E0, R1, k1, fun y u H2 k2 e2 R2 r2 => ?_, he.later e1⟩
      obtain ⟨j1, j2, j, z, j3, j4, j5, j6⟩ := k2
      obtain ⟨l', vs', e3, hl', hr'⟩ := (r1.mono e2).lst R2
      cases e3
      have rf := r2.flatp R2 j2
      obtain ⟨w, i1, i2⟩ := hr'.get j3
      have fl : ∀ {i : Nat} {z : D}, xs[i]? = some z → flatD z = true := fun h => List.all_eq_true.mp j1 _ (List.mem_of_getElem? h)
      refine ⟨_, _, _, j, w, rfl, rfl, .inl (.inl hl'), rf.flat j2, hr'.flat j1, i1, by rw [i2.eqv rf (fl j3) j2]; exact j4, fun k z' hk hz => ?_, hq _ _ _ j6 (e1.trans e2) R2 (.inl (.int _))⟩
      obtain ⟨d, i3, i4⟩ := hr'.get' hz
      rw [i4.eqv rf (fl i3) j2]
      exact j5 k d hk i3
    · exact k1.elim, he⟩⟩

/-! ### dicts of numbers and texts -/
def wGet2 (wo we wf : WE) : WE := fun ρ Q E => wo ρ (fun d => match d with
  | .dK kvs => we ρ (fun k => wf ρ (fun z => match keyD k with
    | some k => Q ((valG kvs k).getD z)
    | none => False) E) E
  | _ => False) E
theorem dget_of {g : G} {H0 : Bs} {H : Hp} {ρ : PSt} {σ : L2.St} {kvs : List (Key × D)} {v u : V} {y : D} {k : Key} (R : Rel K g H0 ρ σ H) (r : RpM m1 K H g ρ σ (.dK kvs) v) (ry : RpM m2 K H g ρ σ y u) (h : keyD y = some k) :
    ∃ l, v = .ref l ∧ ((valG kvs k = none ∧ DGet H l u none) ∨ ∃ x w, valG kvs k = some x ∧ DGet H l u (some w) ∧ Rp K H (avS g ρ σ) x w) := by
  obtain ⟨l, ks, rfl, hl, hk, hr⟩ := r.dK R
  refine ⟨l, rfl, ?_⟩
  rcases rpk_val (k := k) hk hr with ⟨h1, h2⟩ | ⟨x, w, h1, h2, h3⟩
  · exact .inl ⟨h1, .inl ⟨_, k, .inl hl, keyD_V R h ry, h2.symm⟩⟩
  · exact .inr ⟨x, w, h1, .inl ⟨_, k, .inl hl, keyD_V R h ry, h2.symm⟩, h3⟩
theorem de_get2 {k : Nat} {apos cpos : Pos} (hr : Room k X.A) (ho : DE X W m1 o wo) (he : DE X W m2 e we) (hf : DE X W m f wf) (hM : M2 X o "get" apos e f cpos := by exact ⟨rfl, rfl, rfl, rfl⟩) : DE X W m (.Call (.Attribute o "get" apos) [e, f] [] cpos) (wGet2 wo we wf) :=
  ⟨PE.weak (pe_dget2 (hu_of hr) ho.pe he.pe hf.pe hM) fun σ H Q ⟨g, H0, ρ, Q0, E0, R, hw, hq, he⟩ => ⟨g, H0, ρ, _, E0, R, hw, fun d v H1 k1 e1 R1 r1 => by
    split at k1
    · rename_i kvs
      obtain ⟨l, ks, e0, hl, hk, hrr⟩ := r1.dK R1
      refine ⟨l, e0, .inl ⟨_, .inl hl⟩, g, H0, ρ, _, E0, R1, k1, fun y u H2 k2 e2 R2 r2 => ⟨g, H0, ρ, _, E0, R2, k2, fun z w H3 k3 e3 R3 r3 => ?_, (he.later e1).later e2⟩, he.later e1⟩
      split at k3
      · rename_i k4 e4
        obtain ⟨l', e5, h | ⟨x, w', h1, h2, h3⟩⟩ := dget_of R3 ((r1.mono e2).mono e3) (r2.mono e3) e4
        · rw [e0] at e5
          cases e5
          refine ⟨none, h.2, hq _ _ _ k3 ((e1.trans e2).trans e3) R3 ?_⟩
          rw [h.1]
          exact r3
        · rw [e0] at e5
          cases e5
          refine ⟨some w', h2, hq _ _ _ k3 ((e1.trans e2).trans e3) R3 ?_⟩
          rw [h1]
          exact .inl h3
      · exact k3.elim
    · exact k1.elim, he⟩⟩
def fDin (neg : Bool) : D → D → (D → Prop) → Prop := fun y d Q => match d, keyD y with
  | .dK kvs, some k => Q (.bl (if neg then !(valG kvs k).isSome else (valG kvs k).isSome))
  | _, _ => False
theorem din_of {g : G} {H0 : Bs} {H : Hp} {ρ : PSt} {σ : L2.St} {kvs : List (Key × D)} {v u : V} {y : D} {k : Key} (R : Rel K g H0 ρ σ H) (r : RpM m1 K H g ρ σ (.dK kvs) v) (ry : RpM m2 K H g ρ σ y u) (h : keyD y = some k) :
    ∃ l o, v = .ref l ∧ DGet H l u o ∧ o.isSome = (valG kvs k).isSome := by
  obtain ⟨l, e, h | ⟨x, w, h1, h2, _⟩⟩ := dget_of R r ry h
  · exact ⟨l, none, e, h.2, by rw [h.1]; rfl⟩
  · exact ⟨l, some w, e, h2, by rw [h1]; rfl⟩
theorem de_din {k : Nat} (hr : Room k X.A) (he : DE X W m2 e we) (ho : DE X W m1 o wo) (hb : behindInMarks .In o = false := by rfl) : DE X W m (.Compare e [.In] [o] pos) (wB (fDin false) we wo) :=
  ⟨PE.weak (pe_cmp (pc_din (hu_of hr) he.pe ho.pe) hb) fun σ H Q ⟨g, H0, ρ, Q0, E0, R, hw, hq, he⟩ => ⟨g, H0, ρ, _, E0, R, hw, fun y u H1 k1 e1 R1 r1 => ⟨g, H0, ρ, _, E0, R1, k1, fun d v H2 k2 e2 R2 r2 => by
    unfold fDin at k2
    split at k2
    · rename_i kvs k e4
      obtain ⟨l, oo, h1, h2, h3⟩ := din_of R2 r2 (r1.mono e2) e4
      exact ⟨l, oo, h1, h2, hq _ _ _ k2 (e1.trans e2) R2 (by rw [h3]; exact .inl (.bl _))⟩
    · exact k2.elim, he.later e1⟩, he⟩⟩
theorem de_dnotin {k : Nat} (hr : Room k X.A) (he : DE X W m2 e we) (ho : DE X W m1 o wo) (hb : behindInMarks .NotIn o = false := by rfl) : DE X W m (.Compare e [.NotIn] [o] pos) (wB (fDin true) we wo) :=
  ⟨PE.weak (pe_cmp (pc_dnotin (hu_of hr) he.pe ho.pe) hb) fun σ H Q ⟨g, H0, ρ, Q0, E0, R, hw, hq, he⟩ => ⟨g, H0, ρ, _, E0, R, hw, fun y u H1 k1 e1 R1 r1 => ⟨g, H0, ρ, _, E0, R1, k1, fun d v H2 k2 e2 R2 r2 => by
    unfold fDin at k2
    split at k2
    · rename_i kvs k e4
      obtain ⟨l, oo, h1, h2, h3⟩ := din_of R2 r2 (r1.mono e2) e4
      exact ⟨l, oo, h1, h2, hq _ _ _ k2 (e1.trans e2) R2 (by rw [h3]; exact .inl (.bl _))⟩
    · exact k2.elim, he.later e1⟩, he⟩⟩
/-- dict(xs), xs a list of pairs -/
def mergeD (kvs more : List (Key × D)) : List (Key × D) := more.foldl (fun acc kv => putG acc kv.1 kv.2) kvs
theorem rpk_merge {H : Hp} {av : Addr → Prop} : ∀ {more : List (Key × D)} {us : List (Key × V)} {xs : List (Key × D)} {kvs : List (Key × V)}, us.map Prod.fst = more.map Prod.fst → Rps K H av (more.map Prod.snd) (us.map Prod.snd) → kvs.map Prod.fst = xs.map Prod.fst → Rps K H av (xs.map Prod.snd) (kvs.map Prod.snd) →
    (mergeK kvs us).map Prod.fst = (mergeD xs more).map Prod.fst ∧ Rps K H av ((mergeD xs more).map Prod.snd) ((mergeK kvs us).map Prod.snd)
  | [], [], _, _, _, _, h, r => ⟨h, r⟩
  | [], _ :: _, _, _, h, _, _, _ => by cases h
  | _ :: _, [], _, _, h, _, _, _ => by cases h
  | (k1, x) :: more, (k2, v) :: us, xs, kvs, h, r, h2, r2 => by
    rw [List.map_cons, List.map_cons] at h r
    injection h with h3 h4
    have h3 : k2 = k1 := h3
    subst h3
    cases r with
    | cons r3 r4 =>
      obtain ⟨i1, i2⟩ := rpk_put (k := k2) r3 h2 r2
      exact rpk_merge (more := more) (us := us) h4 r4 i1 i2
def fDict : List D → (D → Prop) → Prop := fun xs Q => ∃ kvs : List (Key × D), xs = [.lst (kvs.map fun kv => .tup [keyOf kv.1, kv.2])] ∧ Q (.dK (mergeD [] kvs))
theorem pairs_at {H : Hp} {av : Addr → Prop} : ∀ {kvs : List (Key × D)} {vs : List V}, Rps K H av (kvs.map fun kv => D.tup [keyOf kv.1, kv.2]) vs →
    ∃ (ps : List Addr) (us : List (Key × V)), vs = ps.map V.ref ∧ Paired (fun p kv => SqT K H p [kV kv.1, kv.2]) ps us ∧ us.map Prod.fst = kvs.map Prod.fst ∧ Rps K H av (kvs.map Prod.snd) (us.map Prod.snd)
  | [], _, .nil => ⟨[], [], rfl, .nil, rfl, .nil⟩
  | (k, x) :: kvs, vs, h => by
    rw [List.map_cons] at h
    cases h with
    | cons r rs =>
      cases r with
      | tup h1 r1 =>
        rename_i l us0
        cases r1 with
        | cons r1 r2 =>
          rename_i v1 vs1
          cases r2 with
          | cons r2 r3 =>
            rename_i v2 vs2
            cases r3
            obtain ⟨ps, us, e1, e2, e3, e4⟩ := pairs_at rs
            have ek : v1 = kV k := by
              cases k with
              | inl i => cases r1; rfl
              | inr s => cases r1; rfl
            subst ek
            refine ⟨l :: ps, (k, v2) :: us, by rw [e1]; rfl, .cons h1.sq e2, ?_, .cons r2 e4⟩
            rw [List.map_cons, List.map_cons, e3]
theorem df_dict {x : Str} (ha : DA X W m1 (e :: es) ws) (hm : X.mg x = none) (hv : bootBuiltins x = some (.type "dict")) (hc : X.calm = true := by rfl) (hg : Gl X x := by rfl) (hn : x ≠ "__name__" := by decide) (hdb : (x == ("__debug__" : Str)) = false := by decide)
    (he : starEach (e :: es) X.env = (false, eval e X.env) :: starEach es X.env := by rfl) (hpl : (backTo pos (starEach es X.env)).any (·.1) = false := by rfl) : DF X W (.Call (.Name x p) (e :: es) [] pos) (wF fDict ws) :=
  df_callTy (call_dictP hc) (fun g H0 ρ σ H xs vs Q0 Q R ⟨kvs, e1, hf⟩ r k => by
    subst e1
    cases r with
    | cons r rr =>
      cases rr
      obtain ⟨a, ws, rfl, hl, hr⟩ := r.lst R
      obtain ⟨ps, us, e1, e2, e3, e4⟩ := pairs_at hr
      rw [e1] at hl
      refine ⟨a, ps, us, rfl, .inl (.inl hl), e2, fun q hq => ?_⟩
      obtain ⟨i1, i2⟩ := rpk_merge (xs := []) (kvs := []) e3 e4 rfl .nil
      exact k _ _ _ hf (Evl.Ex.new hq) (nnt hq) (.dK upd_same i1 (i2.mono (Ext.new hq) Rel.chS (avP_new (nnt hq))))) hm hv ha hg hn hdb he hpl

/-! ### raise C() -/
/-- C() of an own error class without own __init__ -/
theorem pmk_own0 {C : Addr} {bmB : List Value} {B newId initId : String} {x : Str} {p pos : Pos} (F : ExcBaseFacts B newId initId bmB) (q : PySem.W.excIn X.K C bmB newId = true) (gC : X.mg x = some (.ref C))
    (kC : PySem.W.keepIn X.K (.ref C) = true) (r : Raises X (.ref C)) (hg : Gl X x) (hdb : (x == ("__debug__" : Str)) = false := by decide) :
    PMk X (.Call (.Name x p) [] [] pos) (fun σ H Q => Q (.ref C) none H) := by
  intro pins s σ H Q I h
  refine wpAny_Call_Name_kw (ld_glob I hg gC ?_ hdb)
  refine PySem.W.callWith_K0 I.kIn kC ?_
  show wpAny _ _ (call (.ref C) []) _ _ _
  obtain ⟨bm, N, nm, qn, bs, hdct, sn, sub, ab, col, dd, k0, k1, k2, k3, k5, mN, hC, hN, hni, T⟩ := exc_obj I.kIn q
  refine wpAny_call_exc_subT F T hC hN hni (fun h' e hm => ?_) (Nat.zero_le _)
  exact mk_of I hm r h (I.hok.gone hm.new)
/-- what an own error class says in the written part -/
structure ErrC (K : PySem.W.Frag) (C : Addr) : Prop where
  q : PySem.W.excIn K C [.type "ValueError", .type "Exception", .type "BaseException", .type "object"] "ValueError.__new__" = true
  kC : PySem.W.keepIn K (.ref C) = true
  b : PySem.W.subIn K (.ref C) (.type "BaseException") = some true
  t : PySem.W.typeIn K (.ref C) = some (.type "type")
theorem ds_raise0 {C : Addr} {x : Str} {cpos : Pos} (tk : Takes X W) (F : ErrC X.K C) (gC : X.mg x = some (.ref C)) (hc : X.calm = true := by rfl) (hg : Gl X x := by rfl) (hdb : (x == ("__debug__" : Str)) = false := by decide) : DS X W (.Raise (some (.Call (.Name x p) [] [] cpos)) none pos) (fun D _ => D.er ⟨C, []⟩) :=
  ⟨PS.weak (ps_raise hc tk (pmk_own0 PySem.F.excBase_ValueError F.q gC F.kC (raises_own F.b F.t) hg hdb)) fun Dn σ H ⟨g, H0, ρ, D0, R, hw, ok⟩ => ok.er _ _ _ ρ σ H hw R ⟨rfl, .inl ⟨rfl, rfl⟩⟩⟩
end
end PL
end
section
set_option Elab.async false
set_option linter.all false
set_option maxRecDepth 100000
set_option maxHeartbeats 4000000
/-! The plain layer, 10: sorted(d.items()). -/
namespace PL
open PySem PySem.Spec PyProof.Rows L2 L2.DX
variable [TabList]
/-- the pair of numbers in a tuple -/
def keyP (h : Heap) (v : Value) : Int × Int := match v with
  | .ref a => match h.get? a with
    | some o => match o.data with
      | .seq its _ => match its.toList with
        | [.int x _, .int y _] => (x, y)
        | _ => (0, 0)
      | _ => (0, 0)
    | _ => (0, 0)
  | _ => (0, 0)
theorem keyP_of {h : Heap} {v : Value} {x y : Int} (p : Srt.IsPair h v x y) : keyP h v = (x, y) := by
  obtain ⟨a, o, t, u, n, rfl, h1, _, h2⟩ := p
  unfold keyP
  simp only [h1, h2]
abbrev entI (e : Int × Int) : Key × V := (.inl e.1, .int e.2)
/-- keys and values numbers -/
def rSortItI : List V → Hp → VK → Prop := fun vs H Q => ∃ (p a : Addr) (ks : List (Int × Int)), vs = [.ref p] ∧ H p = some (itemsO p a) ∧ H a = some (.dK (ks.map entI)) ∧
  ∀ (H' : Hp) (l : Addr) (ps : List (Addr × Int × Int)), (∀ b o, H b = some o → H' b = some o) → H l = none → (ps.map (·.2)).Perm ks → (ps.map (·.2)).Pairwise (fun e f => SrtO.lexB f e = false) → H' l = some (.lst (ps.map fun z => V.ref z.1)) →
    (∀ z ∈ ps, H' z.1 = some (.tup [.int z.2.1, .int z.2.2]) ∧ H z.1 = none) → Q (.ref l) H'
theorem pairs_get {P : Program} {w : World} : ∀ {es : List DictEntry} {vs : List (Key × Value)} {ks : List (Int × Int)}, Pairs (mixKind P w) es vs → KV (ks.map entI) vs → ∀ {j : Nat} {e : DictEntry}, es[j]? = some e → ∃ k t u, ks[j]? = some k ∧ e.key = .int k.1 t ∧ e.val = .int k.2 u
  | _, _, [], .nil, _, j, e, h => by simp at h
  | _, _, k :: ks, .nil, r, j, e, h => by simp at h
  | _, _, [], .cons _ _ _, r, j, e, h => by cases r
  | _, _, k :: ks, .cons h1 h2 t, r, j, e, h => by
    rw [List.map_cons] at r
    cases r with
    | cons r1 r2 =>
      cases j with
      | zero =>
        simp only [List.getElem?_cons_zero] at h
        cases h
        obtain ⟨u, hu⟩ := (show ∃ t, _ = Value.int k.2 t from r1.2)
        have e1 := r1.1
        rw [mixKind_is, ← e1] at h1
        rcases keyIs_shape h1 with ⟨i, t, e1, e2⟩ | ⟨i, t, e1, e2⟩
        · cases e1
          exact ⟨k, t, u, rfl, e2, h2.trans hu⟩
        · cases e1
      | succ j =>
        simp only [List.getElem?_cons_succ] at h ⊢
        exact pairs_get t r2 h
theorem cr_sortedItI {X : Cx} (hc : X.calm = true) : CallR X (.builtin "sorted") rSortItI := by
  intro pins s σ H xs us Q I r h
  obtain ⟨p, a, ks, rfl, hp, ha, q⟩ := h
  obtain rfl := Vals.ref1 r
  have view : s.heap.IsItemsView p a := (show ObjOk X.prog X.w H s.heap p (itemsO p a) from I.hok p _ hp).1
  obtain ⟨z, hd, vs, rel, o, es, ep, ho, hx, hdat, _, hpr, hn⟩ := dk_of I.hok ha
  have pr : ∀ (j : Nat) (e : DictEntry), es[j]? = some e → ∃ k t u, ks[j]? = some k ∧ e.key = .int k.1 t ∧ e.val = .int k.2 u := fun j e h => pairs_get hpr rel (by rw [Array.getElem?_toList]; exact h)
  have l1 : ks.length = es.size := by
    have q1 := Paired.length rel
    have q2 : ∀ {es : List DictEntry} {vs : List (Key × Value)}, Pairs (mixKind X.prog X.w) es vs → es.length = vs.length := by
      intro es vs h
      induction h with
      | nil => rfl
      | cons _ _ _ ih => simp [ih]
    have q3 := q2 hpr
    rw [List.length_map] at q1
    rw [Array.length_toList] at q3
    omega
  have hh : X.A.handled = none := I.ok.hd hc
  have hsz : es.size ≤ sizeLine := by rw [← l1]; rw [List.length_map] at z; exact z
  refine DT.sortedI (es := es) (ep := ep) hh view ⟨o, ho, hx, hdat⟩ hsz fun h' tk as hk hlt hl hG => ?_
  have lak : as.length = ks.length := by omega
  have nd : as.Nodup := List.Pairwise.imp (fun h => Nat.ne_of_lt h) hG.rise
  have prs : ∀ (j : Nat) (b : Addr), as[j]? = some b → ∃ (e : Int × Int) (t u : Tok), ks[j]? = some e ∧ h'.get? b = some { cls := .type "tuple", data := .seq #[Value.int e.1 t, Value.int e.2 u] } := by
    intro j b hj
    obtain ⟨en, he, hg⟩ := hG.pairs j b hj
    obtain ⟨k, t, u, h1, h2, h3⟩ := pr j en he
    exact ⟨k, t, u, h1, by rw [hg, h2, h3]⟩
  have hob : (h'.push { cls := .type "list", data := .seq (as.map Value.ref).toArray }).get? h'.objs.size = some (seqObj "list" (as.map Value.ref).toArray 0) := Heap.get?_push_size _ rfl
  have kb : ∀ b o, s.heap.get? b = some o → (h'.push { cls := .type "list", data := .seq (as.map Value.ref).toArray }).get? b = some o := fun b o e => Heap.get?_push_of_some _ (hk b o e)
  have ne0 : ∀ b o, h'.get? b = some o → b ≠ h'.objs.size := fun b o e => Nat.ne_of_lt (Heap.lt_size e)
  generalize hh2 : h'.push { cls := .type "list", data := .seq (as.map Value.ref).toArray } = h2 at hob kb ⊢
  have ka : ∀ b o, h'.get? b = some o → h2.get? b = some o := fun b o e => by rw [← hh2]; exact Heap.get?_push_of_some _ e
  have isp : ∀ (j : Nat) (b : Addr) (e : Int × Int), as[j]? = some b → ks[j]? = some e → Srt.IsPair h2 (.ref b) e.1 e.2 := by
    intro j b e hj he
    obtain ⟨e', t, u, h1, h3⟩ := prs j b hj
    have ee : e' = e := Option.some.inj (h1.symm.trans he)
    rw [ee] at h3
    exact ⟨b, _, t, u, 0, rfl, ka _ _ h3, rfl, rfl⟩
  have kof : ∀ (j : Nat) (b : Addr) (e : Int × Int), as[j]? = some b → ks[j]? = some e → keyP h2 (.ref b) = e := fun j b e hj he => keyP_of (isp j b e hj he)
  have at_ : ∀ v ∈ as.map Value.ref, ∃ (j : Nat) (b : Addr) (e : Int × Int), v = .ref b ∧ as[j]? = some b ∧ ks[j]? = some e := by
    intro v hv'
    obtain ⟨b, hb, rfl⟩ := List.mem_map.mp hv'
    obtain ⟨j, hj⟩ := List.mem_iff_getElem?.mp hb
    obtain ⟨e, _, _, he, _⟩ := prs j b hj
    exact ⟨j, b, e, rfl, hj, he⟩
  refine wpAny_call_entry PyProof.Rows.slot_list_sort ⟨_, hob, rfl⟩ PyProof.Rows.entry_list_sort
    (SrtO.list_sort_ord (s := { s with heap := h2, toks := tk }) (SrtO.swo_lex fun u => keyP h2 u) hob (by rw [List.length_map, hl]; exact hsz) (fun h2' => SrtO.pairs_sortableO (by omega) (fun v hv => ?_) fun o e => ?_) fun out o1 o2 => ⟨.none, rfl, ?_⟩) (PyProof.Rows.args_list_sort _)
  · obtain ⟨j, b, e, rfl, hj, he⟩ := at_ v hv
    rw [kof j b e hj he]
    exact isp j b e hj he
  · have e' : some o = some (seqObj "list" (as.map Value.ref).toArray 0) := e.symm.trans hob
    cases e'
    intro c
    exact absurd (Value.type.inj c) (by decide)
  · show EP X pins σ Q (.ref h'.objs.size) { s with heap := sortedHeap h2 h'.objs.size (as.map Value.ref) out.toArray, toks := tk }
    have zf : (as.zip ks).map (fun z : Addr × Int × Int => Value.ref z.1) = as.map Value.ref := by
      have m1 : (as.zip ks).map Prod.fst = as := List.map_fst_zip (by rw [lak]; exact Nat.le_refl _)
      conv => rhs; rw [← m1]
      rw [List.map_map]
      rfl
    obtain ⟨zs, pz, ez⟩ := perm_lift (fun z : Addr × Int × Int => Value.ref z.1) o2.perm (as.zip ks) zf
    have idx : ∀ z ∈ zs, ∃ j : Nat, as[j]? = some z.1 ∧ ks[j]? = some z.2 := by
      intro z' hz'
      obtain ⟨j, hj⟩ := List.mem_iff_getElem?.mp (pz.mem_iff.mp hz')
      exact ⟨j, List.getElem?_zip_eq_some.mp hj⟩
    have hperm : (zs.map (·.2)).Perm ks := by
      have e := pz.map (·.2)
      have m2 : (as.zip ks).map (·.2) = ks := List.map_snd_zip (by rw [lak]; exact Nat.le_refl _)
      rw [m2] at e
      exact e
    have hsort : (zs.map (·.2)).Pairwise (fun e f => SrtO.lexB f e = false) := by
      rw [← ez] at o1
      unfold SrtO.Srtd at o1
      rw [List.pairwise_map] at o1 ⊢
      refine List.Pairwise.imp_of_mem (fun {x y} hx hy h => ?_) o1
      obtain ⟨j, j1, j2⟩ := idx x hx
      obtain ⟨i, i1, i2⟩ := idx y hy
      rw [← kof j _ _ j1 j2, ← kof i _ _ i1 i2]
      exact h
    have kF : ∀ b o, b ≠ h'.objs.size → h2.get? b = some o → (sortedHeap h2 h'.objs.size (as.map Value.ref) out.toArray).get? b = some o := fun b o hb e => (PyProof.Rows.sortedHeap_old hb (Heap.lt_size e)).trans e
    have kS : ∀ b o, s.heap.get? b = some o → (sortedHeap h2 h'.objs.size (as.map Value.ref) out.toArray).get? b = some o := fun b o e => kF b o (ne0 _ _ (hk b o e)) (kb b o e)
    obtain ⟨eF, heF⟩ := PyProof.Rows.sortedHeap_at (vs := as.map Value.ref) (out := out.toArray) hob
    have I1 : Inv X pins σ H { s with heap := sortedHeap h2 h'.objs.size (as.map Value.ref) out.toArray, toks := tk } := I.kept (t' := tk) kS
    have hn0 : H h'.objs.size = none := I.hok.fresh (Nat.le_of_lt hlt)
    have hlen : (zs.map fun z => V.ref z.1).length ≤ sizeLine := by
      have e := hperm.length_eq
      rw [List.length_map] at e
      rw [List.length_map, e, l1]
      exact hsz
    have rv : Vals (zs.map fun z => V.ref z.1) out := by
      rw [← ez]
      exact vals_maps (fun z : Addr × Int × Int => V.ref z.1) (fun z => Value.ref z.1) zs fun _ _ => rfl
    have I2 : Inv X pins σ (upd H h'.objs.size (.lst (zs.map fun z => V.ref z.1))) { s with heap := sortedHeap h2 h'.objs.size (as.map Value.ref) out.toArray, toks := tk } :=
      I1.take (h' := sortedHeap h2 h'.objs.size (as.map Value.ref) out.toArray) (t' := tk) (fun b ob _ e => e) (I.fpOk (Nat.le_of_lt hlt) hn0) ⟨hlen, out, eF, rv, heF⟩
    obtain ⟨H2, I3, g, qt⟩ := takeT (P := fun b vs => ∃ (j : Nat) (e : Int × Int), as[j]? = some b ∧ ks[j]? = some e ∧ vs = [.int e.1, .int e.2]) I as _ I2 nd fun b hb => by
      obtain ⟨j, hj⟩ := List.mem_iff_getElem?.mp hb
      obtain ⟨e, t, u, he, hg⟩ := prs j b hj
      have hbl : s.heap.objs.size ≤ b := Nat.le_of_lt (hG.above b hb)
      refine ⟨hbl, ?_, [.int e.1, .int e.2], ⟨j, e, hj, he, rfl⟩, fun H3 => ⟨(by rw [sizeLine_eq]; show 2 ≤ 16777216; omega), [Value.int e.1 t, Value.int e.2 u], .cons ⟨_, rfl⟩ (.cons ⟨_, rfl⟩ .nil), ⟨_, kF _ _ (ne0 _ _ hg) (ka _ _ hg), rfl, 0, rfl⟩⟩⟩
      rw [upd_ne (ne0 _ _ hg)]
      exact I.hok.fresh hbl
    have gr : ∀ b o, H b = some o → H2 b = some o := fun b o e => g b o (by rw [upd_ne (ne_of_none e hn0)]; exact e)
    refine ⟨.ref h'.objs.size, H2, I3, rfl, q H2 h'.objs.size zs gr hn0 hperm hsort (g _ _ upd_same) fun z' hz' => ?_⟩
    obtain ⟨i, i1, i2⟩ := idx z' hz'
    obtain ⟨vs, ⟨j, e, j1, j2, ev⟩, hH⟩ := qt z'.1 (List.mem_of_getElem? i1)
    have eij : i = j := (List.getElem?_inj (List.getElem?_eq_some_iff.mp i1).1 nd).mp (i1.trans j1.symm)
    subst eij
    have ee : e = z'.2 := Option.some.inj (j2.symm.trans i2)
    rw [ev, ee] at hH
    exact ⟨hH, I.hok.fresh (Nat.le_of_lt (hG.above _ (List.mem_of_getElem? i1)))⟩
/-- d.items() of a dict of numbers and texts -/
def rItemsK : V → List V → Hp → VK → Prop := fun x xs H Q => ∃ (a : Addr) (kvs : List (Key × V)), x = .ref a ∧ xs = [] ∧ H a = some (.dK kvs) ∧ ∀ p, H p = none → Q (.ref p) (upd H p (itemsO p a))
theorem mt_itemsK {X : Cx} : MtR X "dict.items" rItemsK := by
  intro pins s σ H x xs v us Q I rx rxs h
  obtain ⟨a, kvs, rfl, rfl, ha, q⟩ := h
  cases rx
  cases rxs
  obtain ⟨z, hd, vs, rel, o, es, ep, ho, hx, hdat, _⟩ := dk_of I.hok ha
  refine DT.callItems (es := es) (ep := ep) hd ⟨o, ho, hx, hdat⟩ ?_
  have hf : H s.heap.objs.size = none := I.hok.fresh (Nat.le_refl _)
  exact ⟨.ref s.heap.objs.size, upd H s.heap.objs.size (itemsO s.heap.objs.size a), I.laid (t' := s.toks) (fun b u e => Heap.get?_push_of_some _ e) (Nat.le_refl _) (itemsO_ok (Heap.get?_push_size _ rfl)), rfl, q _ hf⟩
/-- pairs in order, the keys first -/
def Ordd (ps : List (Int × Int)) : Prop := ps.Pairwise fun e f => e.1 < f.1 ∨ (e.1 = f.1 ∧ e.2 ≤ f.2)
def pairD (z : Int × Int) : D := .tup [.int z.1, .int z.2]
def wSortIt (wo : WE) : WE := fun ρ Q E => wo ρ (fun d => ∃ ks : List (Int × Int), d = .dK (ks.map fun k => (.inl k.1, .int k.2)) ∧ ∀ ps : List (Int × Int), ps.Perm ks → Ordd ps → Q (.lst (ps.map pairD))) E
theorem rps_pairs {K : PySem.W.Frag} {H : Hp} {av : Addr → Prop} : ∀ {ps : List (Addr × Int × Int)}, (∀ z ∈ ps, H z.1 = some (.tup [.int z.2.1, .int z.2.2]) ∧ ¬ av z.1) → Rps K H av ((ps.map (·.2)).map pairD) (ps.map fun z => V.ref z.1)
  | [], _ => .nil
  | z :: ps, h => .cons (.tup (.inl ⟨.inl (h z List.mem_cons_self).1, (h z List.mem_cons_self).2⟩) (.cons (.int _) (.cons (.int _) .nil))) (rps_pairs fun z q => h z (List.mem_cons_of_mem _ q))
section
variable {X : Cx} {W : WX} {m m1 : Bool} {o : Expr} {wo : WE} {pos p apos cpos : Pos}
theorem entI_of {K : PySem.W.Frag} {H : Hp} {av : Addr → Prop} : ∀ {ks : List (Int × Int)} {kvs : List (Key × V)}, kvs.map Prod.fst = (ks.map fun k => ((.inl k.1, .int k.2) : Key × D)).map Prod.fst → Rps K H av ((ks.map fun k => ((.inl k.1, .int k.2) : Key × D)).map Prod.snd) (kvs.map Prod.snd) → kvs = ks.map entI
  | [], [], _, _ => rfl
  | [], _ :: _, h, _ => by cases h
  | _ :: _, [], h, _ => by cases h
  | k :: ks, (k2, v) :: kvs, h, r => by
    simp only [List.map_cons] at h r
    injection h with h1 h2
    have h1 : k2 = .inl k.1 := h1
    cases r with
    | cons r1 r2 =>
      have r1 : Rp K H av (.int k.2) v := r1
      cases r1
      rw [h1, entI_of h2 r2]
      rfl
theorem df_sortIt {x : Str} (ho : DE X W m1 o wo) (hm : X.mg x = none) (hv : bootBuiltins x = some (.builtin "sorted")) (hc : X.calm = true := by rfl) (hg : Gl X x := by rfl) (hn : x ≠ "__name__" := by decide) (hdb : (x == ("__debug__" : Str)) = false := by decide)
    (hbase : attributeBase o "items" X.env (eval o X.env) = eval o X.env := by rfl) (hline : (apos.endLine == cpos.line) = true := by rfl)
    (he : starEach [.Call (.Attribute o "items" apos) [] [] cpos] X.env = (false, eval (.Call (.Attribute o "items" apos) [] [] cpos) X.env) :: starEach [] X.env := by rfl) (hpl : (backTo pos (starEach [] X.env)).any (·.1) = false := by rfl) :
    DF X W (.Call (.Name x p) [.Call (.Attribute o "items" apos) [] [] cpos] [] pos) (wSortIt wo) :=
  ⟨PE.weak (pe_callB (cr_sortedItI hc) hg hm hv (pa_cons (pe_bm0 PySem.F.plainAttrs_dict PySem.F.slot_dict_items PySem.F.type_dict_items mt_itemsK ho.pe hbase hline) pa_nil he) hn hdb he hpl) fun σ H Q ⟨g, H0, ρ, Q0, E0, R, hw, hq, he⟩ => ⟨g, H0, ρ, _, E0, R, hw, fun d v H1 ⟨ks, k1, k2⟩ e1 R1 r1 => by
    subst k1
    obtain ⟨l, kvs, rfl, hl, hk, hr⟩ := r1.dK R1
    have ek := entI_of hk hr
    refine ⟨.inr (.inr (.inl ⟨rfl, .inl ⟨_, hl⟩⟩)), l, _, rfl, rfl, hl, fun q hq0 => ?_⟩
    have nlq : l ≠ q := fun z => by rw [z, hq0] at hl; cases hl
    refine ⟨q, l, ks, rfl, upd_same, by rw [upd_ne nlq, hl, ek], fun H' l' ps g1 hl0 h1 h2 h3 h4 => ?_⟩
    have E2 : Evl.Ex H1 H' := fun b o e => g1 b o (by rw [upd_ne (ne_of_none e hq0)]; exact e)
    have n0 : ∀ {b : Addr}, upd H1 q (itemsO q l) b = none → H1 b = none := fun {b} h => by
      by_cases z : b = q
      · rw [z]; exact hq0
      · rw [upd_ne z] at h; exact h
    have R2 := R1.ex E2
    have nl' : H1 l' = none := n0 hl0
    refine hq _ l' H' (k2 (ps.map (·.2)) h1 ?_) (e1.trans (.of E2)) R2 (e1.free (nnt nl')) (.lst h3 (rps_pairs fun z hz => ⟨(h4 z hz).1, fun y => ?_⟩))
    · unfold Ordd
      refine h2.imp fun {e f} h => ?_
      have := SrtO.lexB_no.mp h
      omega
    · rcases y with y | y
      · exact nnt (n0 (h4 z hz).2) (R1.avS_there y)
      · have z1 := (h4 z hz).1
        rw [y, h3] at z1
        exact (by cases z1), he⟩⟩
end
end PL
end
section
set_option Elab.async false
set_option linter.all false
set_option maxRecDepth 100000
set_option maxHeartbeats 4000000
/-! The plain layer, 11: comparisons as tests; defs. -/
namespace PL
open PySem PySem.Spec PyProof.Rows L2
variable [TabList]
section
variable {X : Cx} {W : WX} {m m1 m2 m3 : Bool} {a b c e o : Expr} {wa wb wc we wo w : WE} {pos p : Pos} {K : PySem.W.Frag}
theorem dt_of {e : Expr} {t : TE} (h : PT X e (tTest t)) (k : ∀ σ H Q, up X.K w W true σ H Q → t σ H Q) : DT X W e (wTB w) :=
  ⟨PT.weak h fun σ H Q ⟨g, H0, ρ, Q0, E0, R, hw, hq, he⟩ => k σ H _ ⟨g, H0, ρ, _, E0, R, hw, fun x v H1 h1 e1 R1 r1 => by
    split at h1
    · exact ⟨_, r1.bl R1, hq _ H1 h1 e1 R1⟩
    · exact h1.elim, he⟩⟩
theorem dt_cmp {op : CmpOp} {r : R2} {f : D → D → (D → Prop) → Prop} {m1 m2 : Bool} (ho : OpR X (compareOp op) r) (hr : RB X.K r f m1 m2 true) (ha : DE X W m1 a wa) (hb : DE X W m2 b wb) (hm : behindInMarks op b = false := by rfl) : DT X W (.Compare a [op] [b] pos) (wTB (wB f wa wb)) :=
  dt_of (pt_cmpR ho ha.pe hb.pe hm) (up_two hr)
theorem dt_lt (ha : DE X W true a wa) (hb : DE X W true b wb) : DT X W (.Compare a [.Lt] [b] pos) (wTB (wB fLt wa wb)) := dt_cmp op_lt (rb_I0 fun _ _ _ _ => .bl _) ha hb (nomark _)
theorem dt_le (ha : DE X W true a wa) (hb : DE X W true b wb) : DT X W (.Compare a [.LtE] [b] pos) (wTB (wB fLe wa wb)) := dt_cmp op_le (rb_I0 fun _ _ _ _ => .bl _) ha hb (nomark _)
theorem dt_gt (ha : DE X W true a wa) (hb : DE X W true b wb) : DT X W (.Compare a [.Gt] [b] pos) (wTB (wB fGt wa wb)) := dt_cmp op_gt (rb_I0 fun _ _ _ _ => .bl _) ha hb (nomark _)
theorem dt_ge (ha : DE X W true a wa) (hb : DE X W true b wb) : DT X W (.Compare a [.GtE] [b] pos) (wTB (wB fGe wa wb)) := dt_cmp op_ge (rb_I0 fun _ _ _ _ => .bl _) ha hb (nomark _)
theorem dt_eq {k : Nat} (hr : Room k X.A) (ha : DE X W m1 a wa) (hb : DE X W m2 b wb) : DT X W (.Compare a [.Eq] [b] pos) (wTB (wB fEq wa wb)) := dt_cmp (op_eqP (hu110 hr)) rb_eq ha hb (nomark _)
theorem dt_ne {k : Nat} (hr : Room k X.A) (ha : DE X W m1 a wa) (hb : DE X W m2 b wb) : DT X W (.Compare a [.NotEq] [b] pos) (wTB (wB fNe wa wb)) := dt_cmp (op_neP (hu110 hr)) rb_ne ha hb (nomark _)
theorem dt_in {k : Nat} (hr : Room k X.A) (ha : DE X W m1 a wa) (hb : DE X W m2 b wb) (hm : behindInMarks .In b = false := by rfl) : DT X W (.Compare a [.In] [b] pos) (wTB (wB (fIn false) wa wb)) := dt_cmp (op_inP (hu110 hr)) rb_in ha hb hm
theorem dt_notIn {k : Nat} (hr : Room k X.A) (ha : DE X W m1 a wa) (hb : DE X W m2 b wb) (hm : behindInMarks .NotIn b = false := by rfl) : DT X W (.Compare a [.NotIn] [b] pos) (wTB (wB (fIn true) wa wb)) := dt_cmp (op_notInP (hu110 hr)) rb_in ha hb hm
theorem rb_isN : RB K (fun x y H Q => y = .non ∧ Q (.bl (decide (x = .non))) H) (fIs false) m1 m2 m := fun g H0 ρ σ H x y v u Q0 Q R hf r1 r2 k => by
  unfold fIs at hf
  split at hf
  · refine ⟨r2.non R, ?_⟩
    rw [non_iff R r1]
    exact k _ _ H hf (Evl.Ex.refl H) (.inl (.bl _))
  · exact hf.elim
theorem dt_isN (ha : DE X W m1 a wa) (hb : DE X W m2 b wb) : DT X W (.Compare a [.Is] [b] pos) (wTB (wB (fIs false) wa wb)) := dt_cmp op_isN rb_isN ha hb (nomark _)
theorem rb_notN : RB K (fun x y H Q => y = .non ∧ Q (.bl (!decide (x = .non))) H) (fIs true) m1 m2 m := fun g H0 ρ σ H x y v u Q0 Q R hf r1 r2 k => by
  unfold fIs at hf
  split at hf
  · refine ⟨r2.non R, ?_⟩
    rw [non_iff R r1]
    exact k _ _ H hf (Evl.Ex.refl H) (.inl (.bl _))
  · exact hf.elim
theorem dt_notN (ha : DE X W m1 a wa) (hb : DE X W m2 b wb) : DT X W (.Compare a [.IsNot] [b] pos) (wTB (wB (fIs true) wa wb)) := dt_cmp op_notN rb_notN ha hb (nomark _)
theorem dt_pc {op : CmpOp} {t : TE} (h : PC X op a b t) (k : ∀ σ H Q, up X.K w W true σ H Q → t σ H Q) (hm : behindInMarks op b = false) : DT X W (.Compare a [op] [b] pos) (wTB w) :=
  ⟨PT.weak (pt_cmp h hm) fun σ H Q ⟨g, H0, ρ, Q0, E0, R, hw, hq, he⟩ => k σ H _ ⟨g, H0, ρ, _, E0, R, hw, fun x v H1 h1 e1 R1 r1 => by
    split at h1
    · exact ⟨_, r1.bl R1, hq _ H1 h1 e1 R1⟩
    · exact h1.elim, he⟩⟩
theorem dt_din {k : Nat} (hr : Room k X.A) (he : DE X W m2 e we) (ho : DE X W m1 o wo) (hb : behindInMarks .In o = false := by rfl) : DT X W (.Compare e [.In] [o] pos) (wTB (wB (fDin false) we wo)) :=
  dt_pc (pc_din (hu_of hr) he.pe ho.pe) (fun σ H Q ⟨g, H0, ρ, Q0, E0, R, hw, hq, he⟩ => ⟨g, H0, ρ, _, E0, R, hw, fun y u H1 k1 e1 R1 r1 => ⟨g, H0, ρ, _, E0, R1, k1, fun d v H2 k2 e2 R2 r2 => by
    unfold fDin at k2
    split at k2
    · rename_i kvs k e4
      obtain ⟨l, oo, h1, h2, h3⟩ := din_of R2 r2 (r1.mono e2) e4
      exact ⟨l, oo, h1, h2, hq _ _ _ k2 (e1.trans e2) R2 (by rw [h3]; exact .inl (.bl _))⟩
    · exact k2.elim, he.later e1⟩, he⟩) hb
theorem dt_dnotin {k : Nat} (hr : Room k X.A) (he : DE X W m2 e we) (ho : DE X W m1 o wo) (hb : behindInMarks .NotIn o = false := by rfl) : DT X W (.Compare e [.NotIn] [o] pos) (wTB (wB (fDin true) we wo)) :=
  dt_pc (pc_dnotin (hu_of hr) he.pe ho.pe) (fun σ H Q ⟨g, H0, ρ, Q0, E0, R, hw, hq, he⟩ => ⟨g, H0, ρ, _, E0, R, hw, fun y u H1 k1 e1 R1 r1 => ⟨g, H0, ρ, _, E0, R1, k1, fun d v H2 k2 e2 R2 r2 => by
    unfold fDin at k2
    split at k2
    · rename_i kvs k e4
      obtain ⟨l, oo, h1, h2, h3⟩ := din_of R2 r2 (r1.mono e2) e4
      exact ⟨l, oo, h1, h2, hq _ _ _ k2 (e1.trans e2) R2 (by rw [h3]; exact .inl (.bl _))⟩
    · exact k2.elim, he.later e1⟩, he⟩) hb
end
section
variable {P : Program} {w : World} {K : PySem.W.Frag} {mg : Str → Option Value} {base : Heap} {N : List Str} {qual : Str} {scope : Scope} {f : Addr} {cd : Value} {A : Around} {outer : List Env} {s : Shared} {H : Hp} {E : XK}
theorem tkX : Takes (cxOf (L2.CX P w) P w K mg base N qual scope f cd A outer s H E) (fun cls d _ H => E cls d H) := takes_of rfl rfl rfl rfl
theorem hpX : PassesOwn (model P w) (cxOf (L2.CX P w) P w K mg base N qual scope f cd A outer s H E).A (cxOf (L2.CX P w) P w K mg base N qual scope f cd A outer s H E).env (cxOf (L2.CX P w) P w K mg base N qual scope f cd A outer s H E).xe :=
  passes_of (X := cxOf (L2.CX P w) P w K mg base N qual scope f cd A outer s H E) (K := fun e s'' => CX P w outer H s E e s'') (E₁ := fun e s'' => CX P w outer H s E e s'') rfl
end
/-- a def: where it stands, what it is -/
structure FnAt (K : PySem.W.Frag) (mg : Str → Option Value) (x qual : Str) (st : Stmt) (ps : List Str) where
  f : Addr
  fd : FuncData
  F : Fun K x qual st f fd
  b : Binds K fd ps []
  g : mg x = some (.ref f)
  k : PySem.W.keepIn K (.ref f) = true
/-- what a def is worth -/
abbrev FnSp (P : Program) (w : World) (K : PySem.W.Frag) (mg : Str → Option Value) (base : Heap) {x qual : Str} {st : Stmt} {ps : List Str} (A : FnAt K mg x qual st ps) (k : Nat) (spec : SPEC) : Prop := FnOk P w K mg base (L2.CX P w) k A.f A.fd ps (toSp K spec)
theorem fnS {P : Program} {w0 : World} {K : PySem.W.Frag} {mg : Str → Option Value} {base : Heap} {x qual : Str} {st : Stmt} {N ps : List Str} {k : Nat} {spec : SPEC} {w : WS} (A : FnAt K mg x qual st ps) (S : FnScope N ps (defScope st)) (len : ∀ xs Q E, spec xs Q E → xs.length = ps.length)
    (hbody : ∀ (cdv : Value) (Ar : Around) (outer : List Env) (s : Shared) (H : Hp) (E : XK), Room k (Ar.deeper (envOfC qual (defScope st) s.heap.objs.size A.f cdv)) → DSs (cxOf (L2.CX P w0) P w0 K mg base N qual (defScope st) A.f cdv Ar outer s H E) (fun cls d _ H => E cls d H) (defBody st) w)
    (pure : ∀ xs Q E, spec xs Q E → w ⟨fun _ => Q .non, fun d _ => Q d, fun _ => False, fun _ => False, E⟩ (startP N xs)) : FnSp P w0 K mg base A (k + 1) spec := fnP A.F S len hbody pure
section
variable {X : Cx} {W : WX} {m : Bool} {k : Nat} {x y qual : Str} {st : Stmt} {ps : List Str} {spec : SPEC} {p pos : Pos} {e : Expr} {es : List Expr} {ws : WA}
theorem de_fn {A : FnAt X.K X.mg x qual st ps} (F : FnOk X.prog X.w X.K X.mg X.base (L2.CX X.prog X.w) k A.f A.fd ps (toSp X.K spec)) (hr : Room k X.A) (tk : Takes X W) (ha : DA X W true (e :: es) ws) (hg : Gl X x := by rfl) (hdb : (x == ("__debug__" : Str)) = false := by decide)
    (he : starEach (e :: es) X.env = (false, eval e X.env) :: starEach es X.env := by rfl) (hpl : (backTo pos (starEach es X.env)).any (·.1) = false := by rfl) : DE X W m (.Call (.Name x p) (e :: es) [] pos) (wCall spec ws) := de_call F hr A.g A.k A.b tk ha hg hdb he hpl
end
end PL
end
section
set_option Elab.async false
set_option linter.all false
set_option maxRecDepth 100000
set_option maxHeartbeats 4000000
/-! The plain layer, 12: names of built-ins; small laws of readings. -/
namespace PL
open PySem PySem.Spec PyProof.Rows L2
variable [TabList]
theorem bt_abs : bootBuiltins "abs" = some (.builtin "abs") := by first | rfl | decide +kernel
theorem bt_len : bootBuiltins "len" = some (.builtin "len") := by first | rfl | decide +kernel
theorem bt_min : bootBuiltins "min" = some (.builtin "min") := by first | rfl | decide +kernel
theorem bt_max : bootBuiltins "max" = some (.builtin "max") := by first | rfl | decide +kernel
theorem bt_sum : bootBuiltins "sum" = some (.builtin "sum") := by first | rfl | decide +kernel
theorem bt_all : bootBuiltins "all" = some (.builtin "all") := by first | rfl | decide +kernel
theorem bt_any : bootBuiltins "any" = some (.builtin "any") := by first | rfl | decide +kernel
theorem bt_isinstance : bootBuiltins "isinstance" = some (.builtin "isinstance") := by first | rfl | decide +kernel
theorem bt_sorted : bootBuiltins "sorted" = some (.builtin "sorted") := by first | rfl | decide +kernel
theorem bt_int : bootBuiltins "int" = some (.type "int") := by first | rfl | decide +kernel
theorem bt_str : bootBuiltins "str" = some (.type "str") := by first | rfl | decide +kernel
theorem bt_tuple : bootBuiltins "tuple" = some (.type "tuple") := by first | rfl | decide +kernel
theorem bt_list : bootBuiltins "list" = some (.type "list") := by first | rfl | decide +kernel
theorem bt_dict : bootBuiltins "dict" = some (.type "dict") := by first | rfl | decide +kernel
theorem bt_bool : bootBuiltins "bool" = some (.type "bool") := by first | rfl | decide +kernel
theorem dg_tupK {X : Cx} {tgs : List Expr} {u : TGs} {fs : List D → PSt → Option PSt} {is : List Nat} {pos : Pos} {k : Nat} (K : PySem.W.Frag) (n : Nat) (h : DGs X tgs u fs is) (hK : X.K = K := by rfl) (hc : X.calm = true := by rfl) (hn : (assignEach tgs X.env).length = n := by rfl) (hst : (assignEach tgs X.env).findIdx? (·.1) = none := by rfl) : DG X (.Tuple tgs k pos) (gTup K n u) (gT n fs) is := by
  subst hK
  exact dg_tup h hc hn hst
/-! ### ways to show a reading -/
/-- x is what we comes to at ρ -/
def Val (we : WE) (ρ : PSt) (x : D) : Prop := ∀ (Q : D → Prop) (E : Err → Prop), Q x → we ρ Q E
theorem keyD_of (k : Key) : keyD (keyOf k) = some k := by cases k <;> rfl
theorem put_of {i : Nat} {wi we : WE} {D : PEnds} {ρ : PSt} (y : PL.D) (k : Key) (xs : List (Key × PL.D)) (he : Val we ρ y) (hi : Val wi ρ (keyOf k)) (ho : ρ[i]? = some (some (.own (.dK xs)))) (hl : xs.length < LL) (h : D.nx (ρ.set i (some (.own (.dK (putG xs k y)))))) : isOwnK ρ i ∧ wPut i wi we D ρ := by
  refine ⟨⟨xs, ho⟩, he _ _ (hi _ _ ?_)⟩
  rw [ho, keyD_of]
  exact ⟨hl, h⟩
theorem app_of {i : Nat} {we : WE} {D : PEnds} {ρ : PSt} (y : PL.D) (xs : List PL.D) (he : Val we ρ y) (ho : ρ[i]? = some (some (.own (.lst xs)))) (hl : xs.length < LL) (h : D.nx (ρ.set i (some (.own (.lst (xs ++ [y])))))) : isOwnL ρ i ∧ wApp i we D ρ := by
  refine ⟨⟨xs, ho⟩, he _ _ ?_⟩
  rw [ho]
  exact ⟨hl, h⟩
theorem set_of {i : Nat} {we : WE} {D : PEnds} {ρ : PSt} (y : PL.D) (he : Val we ρ y) (h : D.nx (ρ.set i (some (.d y)))) : wSet i we D ρ := he _ _ h
theorem own_of {i : Nat} {we : WE} {D : PEnds} {ρ : PSt} (y : PL.D) (he : Val we ρ y) (h : D.nx (ρ.set i (some (.own y)))) : wOwn i we D ρ := he _ _ h
theorem ret_of {we : WE} {D : PEnds} {ρ : PSt} (y : PL.D) (he : Val we ρ y) (h : D.rt y ρ) : wRet we D ρ := he _ _ h
theorem nf {b : Bool} (h : (!b) = false) : b = true := by cases b <;> first | rfl | cases h
theorem nt {b : Bool} (h : (!b) = true) : b = false := by cases b <;> first | rfl | cases h
theorem seq_of {w u : WS} {D : PEnds} {ρ : PSt} (h : w { D with nx := u D } ρ) : wSeq w u D ρ := h
theorem parV_of {i j : Nat} {wa wb : WE} {D : PEnds} {ρ : PSt} (x y : PL.D) (h1 : Val wa ρ x) (h2 : Val wb ρ y) (h : D.nx ((ρ.set i (some (.d x))).set j (some (.d y)))) : wPar i j wa wb D ρ := h1 _ _ (h2 _ _ h)
theorem if_of {wt : WT} {w u : WS} {D : PEnds} {ρ : PSt} (b : Bool) (h : ∀ (Q : Bool → Prop) (E : Err → Prop), Q b → wt ρ Q E) (k1 : b = true → w D ρ) (k2 : b = false → u D ρ) : wIfS wt w u D ρ := by
  refine h _ _ ?_
  cases b
  · exact k2 rfl
  · exact k1 rfl
theorem ifE_of {wt : WT} {wa wb : WE} {ρ : PSt} {Q : D → Prop} {E : Err → Prop} (b : Bool) (h : ∀ (Q : Bool → Prop) (E : Err → Prop), Q b → wt ρ Q E) (k1 : b = true → wa ρ Q E) (k2 : b = false → wb ρ Q E) : wIf wt wa wb ρ Q E := by
  refine h _ _ ?_
  cases b
  · exact k2 rfl
  · exact k1 rfl
theorem and_of {wa wb : WE} {ρ : PSt} {Q : D → Prop} {E : Err → Prop} (b c : Bool) (h : ∀ (Q : D → Prop) (E : Err → Prop), Q (.bl b) → wa ρ Q E) (h2 : b = true → ∀ (Q : D → Prop) (E : Err → Prop), Q (.bl c) → wb ρ Q E) (q : Q (.bl (b && c))) : wAnd wa wb ρ Q E := by
  refine h _ _ ?_
  cases b
  · exact q
  · exact h2 rfl _ _ q
theorem or_of {wa wb : WE} {ρ : PSt} {Q : D → Prop} {E : Err → Prop} (b c : Bool) (h : ∀ (Q : D → Prop) (E : Err → Prop), Q (.bl b) → wa ρ Q E) (h2 : b = false → ∀ (Q : D → Prop) (E : Err → Prop), Q (.bl c) → wb ρ Q E) (q : Q (.bl (b || c))) : wOr wa wb ρ Q E := by
  refine h _ _ ?_
  cases b
  · exact h2 rfl _ _ q
  · exact q
theorem tand_of {wt wu : WT} {ρ : PSt} {Q : Bool → Prop} {E : Err → Prop} (b c : Bool) (h : ∀ (Q : Bool → Prop) (E : Err → Prop), Q b → wt ρ Q E) (h2 : b = true → ∀ (Q : Bool → Prop) (E : Err → Prop), Q c → wu ρ Q E) (q : Q (b && c)) : wTAnd wt wu ρ Q E := by
  refine h _ _ ?_
  cases b
  · exact q
  · exact h2 rfl _ _ q
theorem tor_of {wt wu : WT} {ρ : PSt} {Q : Bool → Prop} {E : Err → Prop} (b c : Bool) (h : ∀ (Q : Bool → Prop) (E : Err → Prop), Q b → wt ρ Q E) (h2 : b = false → ∀ (Q : Bool → Prop) (E : Err → Prop), Q c → wu ρ Q E) (q : Q (b || c)) : wTOr wt wu ρ Q E := by
  refine h _ _ ?_
  cases b
  · exact h2 rfl _ _ q
  · exact q
theorem chain_of {f f' : D → D → (D → Prop) → Prop} {wa wb wc : WE} {ρ : PSt} {Q : D → Prop} {E : Err → Prop} (x y z : D) (b c : Bool) (h1 : ∀ (Q : D → Prop) (E : Err → Prop), Q x → wa ρ Q E) (h2 : ∀ (Q : D → Prop) (E : Err → Prop), Q y → wb ρ Q E) (h3 : ∀ (Q : D → Prop) (E : Err → Prop), Q z → wc ρ Q E)
    (k1 : ∀ Q : D → Prop, Q (.bl b) → f x y Q) (k2 : b = true → ∀ Q : D → Prop, Q (.bl c) → f' y z Q) (q : Q (.bl (b && c))) : wChain f f' wa wb wc ρ Q E := by
  refine h1 _ _ (h2 _ _ (k1 _ ?_))
  cases b
  · exact q
  · exact h3 _ _ (k2 rfl _ q)
theorem while_of {wt : WT} {wb : WS} {D : PEnds} {ρ : PSt} (I : Nat → PSt → Prop) (n : Nat) (h0 : I n ρ) (hs : ∀ n ρ, I n ρ → ∃ b : Bool, (∀ (Q : Bool → Prop) (E : Err → Prop), Q b → wt ρ Q E) ∧
    (b = true → wb { D with nx := fun ρ' => ∃ n', n' < n ∧ I n' ρ', ct := fun ρ' => ∃ n', n' < n ∧ I n' ρ', bk := D.nx } ρ) ∧ (b = false → D.nx ρ)) : wWhile wt wb D ρ := by
  refine ⟨I, ⟨n, h0⟩, fun n ρ i => ?_⟩
  obtain ⟨b, h1, h2, h3⟩ := hs n ρ i
  refine h1 _ _ ?_
  cases b
  · exact h3 rfl
  · exact h2 rfl
theorem for_of {tg : PTg} {wb : WS} {D : PEnds} {ρ : PSt} (xs : List PL.D) (I : List PL.D → PSt → Prop) (h0 : I [] ρ)
    (hs : ∀ done x rest ρ, xs = done ++ x :: rest → I done ρ → ∀ N : PSt → Prop, (∀ ρ, I (done ++ [x]) ρ → N ρ) → ∃ ρ', tg x ρ = some ρ' ∧ wb { D with nx := N, ct := N, bk := D.nx } ρ') (hf : ∀ ρ, I xs ρ → D.nx ρ) : forL tg wb xs D ρ := by
  have key : ∀ (rest done : List PL.D) (ρ : PSt), xs = done ++ rest → I done ρ → forL tg wb rest D ρ := by
    intro rest
    induction rest with
    | nil =>
      intro done ρ e i
      rw [List.append_nil] at e
      rw [← e] at i
      exact hf ρ i
    | cons x rest ih =>
      intro done ρ e i
      obtain ⟨ρ', h1, h2⟩ := hs done x rest ρ e i (forL tg wb rest D) fun ρ j => ih (done ++ [x]) ρ (by rw [e, List.append_assoc]; rfl) j
      unfold forL
      rw [h1]
      exact h2
  exact key xs [] ρ rfl h0
theorem lc_if {tg : PTg} {wt : WT} {we : WE} {ρw : PSt} {Q : D → Prop} (c : D → Bool) (f : D → D) : ∀ (xs acc : List D), (∀ x ∈ xs, ∃ ρ', tg x ρw = some ρ' ∧ (∀ (Q : Bool → Prop) (E : Err → Prop), Q (c x) → wt ρ' Q E) ∧ (c x = true → ∀ (Q : D → Prop) (E : Err → Prop), Q (f x) → we ρ' Q E)) →
    acc.length + xs.length ≤ LL → Q (.lst (acc ++ (xs.filter c).map f)) → lcL tg wt we ρw xs acc Q
  | [], acc, _, _, q => by simpa [lcL] using q
  | x :: xs, acc, h, hl, q => by
    obtain ⟨ρ', h1, h2, h3⟩ := h x List.mem_cons_self
    unfold lcL
    rw [h1]
    refine h2 _ _ ?_
    rw [List.length_cons] at hl
    cases e : c x with
    | true =>
      refine h3 e _ _ ⟨by omega, lc_if c f xs _ (fun y hy => h y (List.mem_cons_of_mem _ hy)) (by rw [List.length_append, List.length_singleton]; omega) ?_⟩
      rw [List.filter_cons_of_pos e, List.map_cons] at q
      rw [List.append_assoc]
      exact q
    | false =>
      refine lc_if c f xs acc (fun y hy => h y (List.mem_cons_of_mem _ hy)) (by omega) ?_
      rw [List.filter_cons_of_neg (by simp [e])] at q
      exact q
theorem lc_of {tg : PTg} {we : WE} {ρw : PSt} {Q : D → Prop} (f : D → D) (xs : List D) (h : ∀ x ∈ xs, ∃ ρ', tg x ρw = some ρ' ∧ ∀ (Q : D → Prop) (E : Err → Prop), Q (f x) → we ρ' Q E) (hl : xs.length ≤ LL) (q : Q (.lst (xs.map f))) : lcL tg wYes we ρw xs [] Q := by
  refine lc_if (fun _ => true) f xs [] (fun x hx => ?_) (by simpa using hl) (by rw [List.nil_append, List.filter_eq_self.mpr fun _ _ => rfl]; exact q)
  obtain ⟨ρ', h1, h2⟩ := h x hx
  exact ⟨ρ', h1, fun _ _ q => q, fun _ => h2⟩
/-- over numbers -/
theorem lc_rng {tg : PTg} {we : WE} {ρw : PSt} {Q : D → Prop} (f : Nat → D) (n : Int) (h : ∀ i : Nat, (i : Int) < n → ∃ ρ', tg (.int i) ρw = some ρ' ∧ ∀ (Q : D → Prop) (E : Err → Prop), Q (f i) → we ρ' Q E) (hl : n ≤ 1000000) (q : Q (.lst ((List.range n.toNat).map f))) : lcL tg wYes we ρw (rng 0 n) [] Q := by
  have e : rng 0 n = (List.range n.toNat).map fun (i : Nat) => D.int (i : Int) := by
    unfold rng
    rw [show (n - 0).toNat = n.toNat by omega]
    refine List.map_congr_left fun i _ => ?_
    rw [Int.zero_add]
  have key : ∀ (l : List Nat) (acc : List D), (∀ i ∈ l, (i : Int) < n) → acc.length + l.length ≤ LL → Q (.lst (acc ++ l.map f)) → lcL tg wYes we ρw (l.map fun (i : Nat) => D.int (i : Int)) acc Q := by
    intro l
    induction l with
    | nil => intro acc _ _ q; simpa [lcL] using q
    | cons i l ih =>
      intro acc h1 h2 q
      obtain ⟨ρ', h3, h4⟩ := h i (h1 i List.mem_cons_self)
      rw [List.map_cons]
      unfold lcL
      rw [h3]
      rw [List.length_cons] at h2
      refine h4 _ _ ⟨by omega, ih _ (fun j hj => h1 j (List.mem_cons_of_mem _ hj)) (by rw [List.length_append, List.length_singleton]; omega) ?_⟩
      rw [List.append_assoc]
      exact q
  rw [e]
  refine key _ [] (fun i hi => ?_) (by rw [List.length_range]; show 0 + n.toNat ≤ 1000000; omega) (by simpa using q)
  have := List.mem_range.mp hi
  omega
end PL
end
section
set_option Elab.async false
set_option linter.all false
set_option maxRecDepth 100000
set_option maxHeartbeats 4000000
/-! The plain layer, 13: sorted lists of numbers, tallies, dicts over numbers. -/
namespace PL
open PySem PySem.Spec PyProof.Rows L2
variable [TabList]
def srt (ns : List Int) : List Int := ns.mergeSort fun a b => decide (a ≤ b)
theorem srt_perm (ns : List Int) : (srt ns).Perm ns := List.mergeSort_perm _ _
theorem srt_le (ns : List Int) : (srt ns).Pairwise (· ≤ ·) := by
  have h := List.pairwise_mergeSort (le := fun a b : Int => decide (a ≤ b)) (fun a b c h1 h2 => by simp at *; omega) (fun a b => by simp; omega) ns
  exact h.imp fun h => of_decide_eq_true h
theorem srt_uniq {l ns : List Int} (h : l.Perm ns) (s : l.Pairwise (· ≤ ·)) : l = srt ns :=
  List.Perm.eq_of_pairwise (le := (· ≤ ·)) (fun a b _ _ h1 h2 => by omega) s (srt_le ns) (h.trans (srt_perm ns).symm)
theorem mem_srt {x : Int} {ns : List Int} : x ∈ srt ns ↔ x ∈ ns := (srt_perm ns).mem_iff
theorem srt_length (ns : List Int) : (srt ns).length = ns.length := (srt_perm ns).length_eq
def insU (x : Int) : List Int → List Int
  | [] => [x]
  | y :: ys => if x < y then x :: y :: ys else if x = y then y :: ys else y :: insU x ys
def keys (ns : List Int) : List Int := ns.foldr insU []
theorem mem_insU {x z : Int} : ∀ {ys : List Int}, z ∈ insU x ys ↔ z = x ∨ z ∈ ys
  | [] => by simp [insU]
  | y :: ys => by
    unfold insU
    split
    · simp
    · split
      · rename_i h; subst h; simp
      · rw [List.mem_cons, mem_insU, List.mem_cons]
        constructor
        · rintro (h | h | h)
          · exact .inr (.inl h)
          · exact .inl h
          · exact .inr (.inr h)
        · rintro (h | h | h)
          · exact .inr (.inl h)
          · exact .inl h
          · exact .inr (.inr h)
theorem insU_lt {x : Int} : ∀ {ys : List Int}, ys.Pairwise (· < ·) → (insU x ys).Pairwise (· < ·)
  | [], _ => by simp [insU]
  | y :: ys, h => by
    unfold insU
    have h1 := List.pairwise_cons.mp h
    split
    · rename_i hx
      refine List.pairwise_cons.mpr ⟨fun z hz => ?_, h⟩
      rcases List.mem_cons.mp hz with rfl | hz
      · exact hx
      · exact Int.lt_trans hx (h1.1 z hz)
    · split
      · exact h
      · refine List.pairwise_cons.mpr ⟨fun z hz => ?_, insU_lt h1.2⟩
        rcases mem_insU.mp hz with rfl | hz
        · omega
        · exact h1.1 z hz
theorem mem_keys {z : Int} : ∀ {ns : List Int}, z ∈ keys ns ↔ z ∈ ns
  | [] => by simp [keys]
  | n :: ns => by
    show z ∈ insU n (keys ns) ↔ _
    rw [mem_insU, mem_keys, List.mem_cons]
theorem keys_lt : ∀ ns : List Int, (keys ns).Pairwise (· < ·)
  | [] => List.Pairwise.nil
  | n :: ns => insU_lt (keys_lt ns)
theorem nodup_of_lt {l : List Int} (h : l.Pairwise (· < ·)) : l.Nodup := h.imp fun h => by omega
theorem keys_uniq {l ns : List Int} (s : l.Pairwise (· < ·)) (h : ∀ x, x ∈ l ↔ x ∈ ns) : l = keys ns := by
  refine List.Perm.eq_of_pairwise (le := (· < ·)) (fun a b _ _ h1 h2 => by omega) s (keys_lt ns) ?_
  exact (List.perm_ext_iff_of_nodup (nodup_of_lt s) (nodup_of_lt (keys_lt ns))).mpr fun x => by rw [h, mem_keys]
/-- each number with how often it comes, ascending -/
def tl (ns : List Int) : List (Int × Int) := (keys ns).map fun k => (k, (ns.count k : Int))
theorem tl_uniq {ps : List (Int × Int)} {ns ks : List Int} (hd : ks.Nodup) (hm : ∀ x, x ∈ ks ↔ x ∈ ns) (h : ps.Perm (ks.map fun k => (k, (ns.count k : Int)))) (s : Ordd ps) : ps = tl ns := by
  have hp : (ps.map Prod.fst).Perm ks := by
    have q := h.map Prod.fst
    rw [List.map_map] at q
    have e : (ks.map (Prod.fst ∘ fun k => (k, (ns.count k : Int)))) = ks := by
      conv => rhs; rw [← List.map_id ks]
      rfl
    rwa [e] at q
  have hlt : (ps.map Prod.fst).Pairwise (· < ·) := by
    have hnd : (ps.map Prod.fst).Nodup := hp.nodup_iff.mpr hd
    unfold List.Nodup at hnd
    rw [List.pairwise_map] at hnd ⊢
    refine (List.Pairwise.and hnd s).imp fun {a b} h => ?_
    obtain ⟨h1, h2⟩ := h
    rcases h2 with h2 | h2
    · exact h2
    · exact absurd h2.1 h1
  have ek := keys_uniq hlt (ns := ns) fun x => by rw [hp.mem_iff]; exact hm x
  unfold tl
  rw [← ek, List.map_map]
  conv => lhs; rw [← List.map_id ps]
  refine List.map_congr_left fun z hz => ?_
  obtain ⟨k, _, rfl⟩ := List.mem_map.mp (h.mem_iff.mp hz)
  rfl
/-! ### comprehensions, items, cuts -/
theorem lc_map {α : Type} {tg : PTg} {we : WE} {ρw : PSt} {Q : D → Prop} (g f : α → D) (l : List α) (h : ∀ a ∈ l, ∃ ρ', tg (g a) ρw = some ρ' ∧ Val we ρ' (f a)) (hl : l.length ≤ LL) (q : Q (.lst (l.map f))) : lcL tg wYes we ρw (l.map g) [] Q := by
  have key : ∀ (l : List α) (acc : List D), (∀ a ∈ l, ∃ ρ', tg (g a) ρw = some ρ' ∧ Val we ρ' (f a)) → acc.length + l.length ≤ LL → Q (.lst (acc ++ l.map f)) → lcL tg wYes we ρw (l.map g) acc Q := by
    intro l
    induction l with
    | nil => intro acc _ _ q; simpa [lcL] using q
    | cons i l ih =>
      intro acc h1 h2 q
      obtain ⟨ρ', h3, h4⟩ := h1 i List.mem_cons_self
      rw [List.map_cons]
      unfold lcL
      rw [h3]
      rw [List.length_cons] at h2
      refine h4 _ _ ⟨by omega, ih _ (fun j hj => h1 j (List.mem_cons_of_mem _ hj)) (by rw [List.length_append, List.length_singleton]; omega) ?_⟩
      rw [List.append_assoc]
      exact q
  exact key l [] h (by simpa using hl) (by simpa using q)
theorem zipD_ints (xs ys : List Int) : zipD (xs.map D.int) (ys.map D.int) = (xs.zip ys).map pairD := by
  unfold zipD
  rw [List.zip_map, List.map_map]
  rfl
theorem cut1 (xs : List D) : cutD xs (some 1) none = xs.drop 1 := by
  unfold cutD
  have e : HT.sIx xs.length 0 (some 1) = min 1 xs.length := HT.sIx_nat _ _ 1
  rw [e, HT.sIx_none]
  cases xs with
  | nil => rfl
  | cons x xs =>
    rw [show min 1 (x :: xs).length = 1 by rw [List.length_cons]; omega]
    rw [List.take_of_length_le (by simp)]
theorem atI_of {α : Type} {xs : List α} {i : Nat} {z : α} (h : xs[i]? = some z) : atI xs (i : Int) = some z := by
  have hl := (List.getElem?_eq_some_iff.mp h).1
  unfold atI ixN
  rw [if_pos (by omega), if_pos (by omega)]
  show xs[(i : Int).toNat]? = some z
  rw [Int.toNat_natCast]
  exact h
theorem ixL_of {xs : List D} {i : Int} {z : D} (h : atI xs i = some z) {Q : D → Prop} (q : Q z) : fIx (.lst xs) (.int i) Q := by
  unfold fIx
  dsimp only
  rw [h]
  exact q
theorem ixT_of {xs : List D} {i : Int} {z : D} (h : atI xs i = some z) {Q : D → Prop} (q : Q z) : fIx (.tup xs) (.int i) Q := by
  unfold fIx
  dsimp only
  rw [h]
  exact q
theorem rng_nat (n : Nat) : rng 0 (n : Int) = (List.range n).map fun (i : Nat) => D.int (i : Int) := by
  unfold rng
  rw [show ((n : Int) - 0).toNat = n by omega]
  refine List.map_congr_left fun i _ => ?_
  rw [Int.zero_add]
/-! ### dicts whose keys are numbers -/
def kvF (F : Int → D) (ks : List Int) : List (Key × D) := ks.map fun k => (.inl k, F k)
theorem valG_kvF {F : Int → D} {x : Int} : ∀ {ks : List Int}, valG (kvF F ks) (.inl x) = if x ∈ ks then some (F x) else none
  | [] => rfl
  | k :: ks => by
    unfold kvF valG
    rw [List.map_cons]
    by_cases e : k = x
    · subst e
      rw [List.find?_cons_of_pos (by simp), if_pos List.mem_cons_self]
      rfl
    · rw [List.find?_cons_of_neg (by simpa using e)]
      have ih := valG_kvF (F := F) (x := x) (ks := ks)
      unfold kvF valG at ih
      rw [ih]
      by_cases h : x ∈ ks
      · rw [if_pos h, if_pos (List.mem_cons_of_mem _ h)]
      · rw [if_neg h, if_neg (fun q => by rcases List.mem_cons.mp q with q | q; exact e q.symm; exact h q)]
def updF (F : Int → D) (x : Int) (v : D) : Int → D := fun k => if k = x then v else F k
def addK (ks : List Int) (x : Int) : List Int := if x ∈ ks then ks else ks ++ [x]
theorem putG_kvF {F : Int → D} {x : Int} {v : D} {ks : List Int} : putG (kvF F ks) (.inl x) v = kvF (updF F x v) (addK ks x) := by
  unfold putG addK
  have e1 : ((kvF F ks).any fun kv => decide (kv.1 = .inl x)) = decide (x ∈ ks) := by
    unfold kvF
    rw [List.any_map]
    induction ks with
    | nil => rfl
    | cons k ks ih =>
      rw [List.any_cons, ih]
      by_cases h : k = x
      · subst h; simp
      · have : ¬ x = k := fun z => h z.symm
        simp [h, this]
  rw [e1]
  by_cases h : x ∈ ks
  · rw [if_pos h, if_pos (by simpa using h)]
    unfold kvF
    rw [List.map_map]
    refine List.map_congr_left fun k _ => ?_
    show (if (Sum.inl k : Key) = .inl x then ((Sum.inl k : Key), v) else (.inl k, F k)) = (.inl k, updF F x v k)
    unfold updF
    by_cases h2 : k = x
    · subst h2; simp
    · simp [h2]
  · rw [if_neg h, if_neg (by simpa using h)]
    unfold kvF
    rw [List.map_append]
    congr 1
    · refine List.map_congr_left fun k hk => ?_
      unfold updF
      rw [if_neg fun z => h (by rw [← z]; exact hk)]
    · show [(_, v)] = [(_, updF F x v x)]
      unfold updF
      rw [if_pos rfl]
theorem mem_addK {ks : List Int} {x y : Int} : y ∈ addK ks x ↔ y ∈ ks ∨ y = x := by
  unfold addK
  split
  · rename_i h
    exact ⟨.inl, fun q => q.elim id fun e => by rw [e]; exact h⟩
  · simp
theorem nodup_addK {ks : List Int} {x : Int} (h : ks.Nodup) : (addK ks x).Nodup := by
  unfold addK
  split
  · exact h
  · rename_i hx
    exact List.nodup_append.mpr ⟨h, (by simp), fun a ha b hb => by
      rw [List.mem_singleton] at hb
      subst hb
      exact fun e => hx (by rw [← e]; exact ha)⟩
theorem addK_length {ks : List Int} {x : Int} : (addK ks x).length ≤ ks.length + 1 := by
  unfold addK
  split <;> simp
theorem kvF_length {F : Int → D} {ks : List Int} : (kvF F ks).length = ks.length := by unfold kvF; simp
theorem kvF_congr {F G : Int → D} {ks : List Int} (h : ∀ k ∈ ks, F k = G k) : kvF F ks = kvF G ks := List.map_congr_left fun k hk => by rw [h k hk]
end PL
end
section
set_option Elab.async false
set_option linter.all false
set_option maxRecDepth 100000
set_option maxHeartbeats 4000000
/-! The plain layer, 14: the hand of a law. -/
namespace PL
open PySem PySem.Spec PyProof.Rows L2
variable [TabList]

/-! ### the hand seen, and put out of sight -/
def handL (c : Addr) (v : Int × Int × Int × Int) : HO := .lst [.ref c, .int v.1, .int v.2.1, .int v.2.2.1, .int v.2.2.2]
section
variable {P : Program} {w : World} {H : Hp} {hp : Heap} {h c : Addr}
theorem hnd_open (ok : HOk P w H hp) (e : H h = some (HandO h c)) : ∃ v : Int × Int × Int × Int, 0 ≤ v.1 ∧ HOk P w (upd H h (handL c v)) hp := by
  obtain ⟨⟨p, r, m, n, t1, t2, t3, t4, k, p0, hg⟩, _, _⟩ := (show ObjOk P w H hp h (HandO h c) from ok h _ e)
  refine ⟨(p, r, m, n), p0, ok.write (x := h) (e := h) (by rw [e]; exact True.intro) (.inl rfl) (fun b u _ q => q) ⟨_, hg⟩ ⟨by rw [sizeLine_eq]; show 5 ≤ 16777216; omega, _, k, ?_, hg⟩⟩
  exact .cons rfl (.cons ⟨_, rfl⟩ (.cons ⟨_, rfl⟩ (.cons ⟨_, rfl⟩ (.cons ⟨_, rfl⟩ .nil))))
theorem hnd_close {v : Int × Int × Int × Int} (ok : HOk P w H hp) (e : H h = some (handL c v)) (p0 : 0 ≤ v.1) : HOk P w (upd H h (HandO h c)) hp := by
  obtain ⟨_, its, n, rv, hg⟩ := (show ObjOk P w H hp h (handL c v) from ok h _ e)
  cases rv with
  | cons r0 rv =>
    cases r0
    cases rv with
    | cons r1 rv =>
      obtain ⟨t1, rfl⟩ := r1
      cases rv with
      | cons r2 rv =>
        obtain ⟨t2, rfl⟩ := r2
        cases rv with
        | cons r3 rv =>
          obtain ⟨t3, rfl⟩ := r3
          cases rv with
          | cons r4 rv =>
            obtain ⟨t4, rfl⟩ := r4
            cases rv
            exact ok.write (x := h) (e := h) (by rw [e]; exact True.intro) (.inl rfl) (fun b u _ q => q) ⟨_, hg⟩ ⟨⟨_, _, _, _, t1, t2, t3, t4, n, p0, hg⟩, ⟨_, hg⟩, fun h1 h2 ⟨p, r, m, n, t1, t2, t3, t4, k, p0, q⟩ f => ⟨p, r, m, n, t1, t2, t3, t4, k, p0, f _ q⟩⟩
end

/-! ### a def that changes the hand: h in slot 0, numbers in the others -/
abbrev HV := Int × Int × Int × Int
def hD (ns : List Int) (v : HV) : D := .lst [.lst (ns.map .int), .int v.1, .int v.2.1, .int v.2.2.1, .int v.2.2.2]
def rhoH (ns : List Int) (v : HV) (l : List (Option Int)) : PSt := some (.d (hD ns v)) :: l.map (Option.map fun i => S.d (.int i))
def sigH (h : Addr) (l : List (Option Int)) : L2.St := some (.ref h) :: l.map (Option.map V.int)
def gE (T : List (Addr × Str)) : G := ⟨none, T, fun _ => False, fun _ _ e => nomatch e⟩
theorem gE_ok {T : List (Addr × Str)} {H : Hp} (t : LamX.Tabs TabList.T H) : (gE T).ok H := ⟨fun _ _ e => (nomatch (show none = some _ from e)), t⟩
theorem mapI_get {α : Type} {f : Int → α} {l : List (Option Int)} {i : Nat} {x : α} (h : (l.map (Option.map f))[i]? = some (some x)) : ∃ j, l[i]? = some (some j) ∧ x = f j := by
  rw [List.getElem?_map] at h
  cases e : l[i]? with
  | none => rw [e] at h; cases h
  | some o =>
    rw [e] at h
    cases o with
    | none => cases h
    | some j => exact ⟨j, rfl, by cases h; rfl⟩
section
variable {K : PySem.W.Frag} {T : List (Addr × Str)} {H H0 : Hp} {h c : Addr} {ns : List Int} {v : HV} {l : List (Option Int)}
theorem avE {ns : List Int} {v : HV} {l : List (Option Int)} {σ : L2.St} {a : Addr} : ¬ avS (gE T) (rhoH ns v l) σ a := by
  rintro (z | ⟨i, x, h1, _⟩)
  · exact z
  · cases i with
    | zero => cases h1
    | succ i =>
      have h1 : (l.map (Option.map fun i => S.d (.int i)))[i]? = some (some (.own x)) := h1
      obtain ⟨j, _, e⟩ := mapI_get h1
      cases e
theorem relH (t : LamX.Tabs TabList.T H) (e1 : H h = some (handL c v)) (e2 : H c = some (.lst (ns.map V.int))) : Rel K (gE T) ⟨H, fun _ => False⟩ (rhoH ns v l) (sigH h l) H where
  ok := gE_ok t
  ext := Ext.refl
  gch := fun a ⟨_, e⟩ => nomatch (show none = some _ from e)
  len := by unfold rhoH sigH; simp
  avt := fun b z => z.elim
  dat := fun i x q => by
    cases i with
    | zero =>
      have q : some (some (S.d (hD ns v))) = some (some (.d x)) := q
      cases q
      exact ⟨_, rfl, .lst e1 avE (.cons (.lst e2 avE (Rps.of_ints ns)) (.cons (.int _) (.cons (.int _) (.cons (.int _) (.cons (.int _) .nil)))))⟩
    | succ i =>
      have q : (l.map (Option.map fun i => S.d (.int i)))[i]? = some (some (.d x)) := q
      obtain ⟨j, e3, e4⟩ := mapI_get q
      cases e4
      refine ⟨.int j, ?_, .int j⟩
      show (l.map (Option.map V.int))[i]? = _
      rw [List.getElem?_map, e3]
      rfl
  own := fun i x q => by
    cases i with
    | zero => cases q
    | succ i =>
      have q : (l.map (Option.map fun i => S.d (.int i)))[i]? = some (some (.own x)) := q
      obtain ⟨j, _, e4⟩ := mapI_get q
      cases e4
  dis := fun i _ x _ _ q => by
    cases i with
    | zero => cases q
    | succ i =>
      have q : (l.map (Option.map fun i => S.d (.int i)))[i]? = some (some (.own x)) := q
      obtain ⟨j, _, e4⟩ := mapI_get q
      cases e4
structure HS (T : List (Addr × Str)) (H0 : Hp) (h c : Addr) (ns : List Int) (v : HV) (l : List (Option Int)) (σ : L2.St) (H : Hp) : Prop where
  s : σ = sigH h l
  t : LamX.Tabs TabList.T H
  e1 : H h = some (handL c v)
  e2 : H c = some (.lst (ns.map V.int))
  ne : c ≠ h
  but : Ext (fun b => b = h) H0 H
theorem chE {a : Addr} (z : (gE T).ch a) : False := by
  obtain ⟨_, q⟩ := z
  cases q
theorem HS.ext {σ : L2.St} {H' : Hp} (s : HS T H0 h c ns v l σ H) (e : Ext (gE T).ch H H') (t : LamX.Tabs TabList.T H') : HS T H0 h c ns v l σ H' :=
  ⟨s.s, t, e.keep _ _ s.e1 (fun z => chE z) (fun _ z => by cases z), e.keep _ _ s.e2 (fun z => chE z) (fun _ z => by cases z), s.ne, s.but.trans ⟨fun a o q n nt => e.keep a o q (fun z => chE z) nt, e.there⟩⟩
theorem HS.rel {σ : L2.St} (s : HS T H0 h c ns v l σ H) : Rel K (gE T) ⟨H, fun _ => False⟩ (rhoH ns v l) σ H := by
  rw [s.s]
  exact relH s.t s.e1 s.e2
theorem HS.put {σ : L2.St} (s : HS T H0 h c ns v l σ H) {i : Nat} (j : Int) (hi : i < l.length) : HS T H0 h c ns v (l.set i (some j)) (σ.set (i + 1) (some (.int j))) H := by
  refine ⟨?_, s.t, s.e1, s.e2, s.ne, s.but⟩
  rw [s.s]
  unfold sigH
  rw [List.set_cons_succ, List.map_set]
  rfl
theorem HS.store {σ : L2.St} {v' : HV} (s : HS T H0 h c ns v l σ H) : HS T H0 h c ns v' l σ (upd H h (handL c v')) := by
  refine ⟨s.s, tabs_upd s.t s.e1 (by exact True.intro), upd_same, by rw [upd_ne s.ne]; exact s.e2, s.ne, s.but.trans ⟨fun a o q n nt => by rw [upd_ne n]; exact q, nt_upd (.of upd_same)⟩⟩
end
/-- the ends, on numbers -/
structure HEnds where
  nx : HV → List (Option Int) → Prop
  rt : Int → HV → Prop
structure HEndsOk (T : List (Addr × Str)) (H0 : Hp) (h c : Addr) (ns : List Int) (D0 : HEnds) (Dn : Ends) : Prop where
  nx : ∀ v l σ H, D0.nx v l → HS T H0 h c ns v l σ H → Dn.nx σ H
  rt : ∀ i v l σ H, D0.rt i v → HS T H0 h c ns v l σ H → Dn.rt (.int i) H
abbrev WH := List Int → HEnds → HV → List (Option Int) → Prop
def upH (w : WH) : TS := fun Dn σ H => ∃ (T : List (Addr × Str)) (H0 : Hp) (h c : Addr) (ns : List Int) (v : HV) (l : List (Option Int)) (D0 : HEnds), HS T H0 h c ns v l σ H ∧ w ns D0 v l ∧ HEndsOk T H0 h c ns D0 Dn
structure DH (X : Cx) (st : Stmt) (w : WH) : Prop where
  ps : PS X st (upH w)
structure DHs (X : Cx) (sts : List Stmt) (w : WH) : Prop where
  ps : PSs X sts (upH w)
def setV (v : HV) : Nat → Int → Option HV
  | 1, j => some (j, v.2)
  | 2, j => some (v.1, j, v.2.2)
  | 3, j => some (v.1, v.2.1, j, v.2.2.2)
  | 4, j => some (v.1, v.2.1, v.2.2.1, j)
  | _, _ => none
theorem setV_lst {c : Addr} {v v' : HV} {i : Nat} {j : Int} (h : setV v i j = some v') : HO.lst ([V.ref c, .int v.1, .int v.2.1, .int v.2.2.1, .int v.2.2.2].set i (.int j)) = handL c v' ∧ i < 5 := by
  unfold setV at h
  split at h <;> first | (cases h; done) | skip
  all_goals (cases h; exact ⟨rfl, by omega⟩)
section
variable {X : Cx} {m : Bool} {e tst : Expr} {we : WE} {wt : WT} {w u a b : WH} {pos pos' : Pos} {st : Stmt} {sts more : List Stmt}
abbrev NE : Err → Prop := fun _ => False
theorem noerr {g : G} {H0 : Bs} {ρ : PSt} {σ : L2.St} {H : Hp} {W : WX} : ErrK X.K g H0 ρ σ H W NE := fun _ _ _ _ z => z.elim
theorem dhs_one (h : DH X st w) : DHs X [st] w := ⟨pss_one h.ps⟩
theorem dhs_nil : DHs X [] (fun _ D v l => D.nx v l) := ⟨PSs.weak pss_nil fun Dn σ H ⟨T, H0, h, c, ns, v, l, D0, s, hw, ok⟩ => ok.nx v l σ H hw s⟩
theorem dhs_cons (h1 : DH X st w) (h2 : DHs X sts u) : DHs X (st :: sts) (fun ns D v l => w ns { D with nx := u ns D } v l) :=
  ⟨PSs.weak (pss_cons h1.ps h2.ps) fun Dn σ H ⟨T, H0, h, c, ns, v, l, D0, s, hw, ok⟩ => ⟨T, H0, h, c, ns, v, l, _, s, hw, ⟨fun v l σ H q s => ⟨T, H0, h, c, ns, v, l, D0, s, q, ok⟩, ok.rt⟩⟩⟩
theorem dh_if (hc : DT X WN tst wt) (ha : DHs X sts a) (hb : DHs X more b) : DH X (.If tst sts more pos) (fun ns D v l => wt (rhoH ns v l) (fun k => match k with
    | true => a ns D v l
    | false => b ns D v l) NE) :=
  ⟨PS.weak (ps_if hc.pt ha.ps hb.ps) fun Dn σ H ⟨T, H0, h, c, ns, v, l, D0, s, hw, ok⟩ => ⟨gE T, _, _, _, NE, s.rel, hw, fun k H' q e' R' => by
    have s' := s.ext e' R'.ok.2
    cases k with
    | true => exact ⟨T, H0, h, c, ns, v, l, D0, s', q, ok⟩
    | false => exact ⟨T, H0, h, c, ns, v, l, D0, s', q, ok⟩, noerr⟩⟩
theorem dh_set (i : Nat) {x : Str} (hN : X.N.Nodup) (he : DE X WN true e we) (hi : X.N[i + 1]? = some x := by rfl) (hx : Loc X.env.scope x := by first | exact Or.inl rfl | exact Or.inr rfl) (hs : swapsWith e (some (.Name x pos')) pos.line X.env = pure false := by rfl)
    (hf : X.fn x = true ∨ X.env.scope.names.lookup x = some .local := by first | exact .inl rfl | exact .inr rfl | assumption) : DH X (.Assign [.Name x pos'] e pos) (fun ns D v l => i < l.length ∧ we (rhoH ns v l) (fun y => match y with
      | .int j => D.nx v (l.set i (some j))
      | _ => False) NE) :=
  ⟨PS.weak (ps_set hN hi hx he.pe hs hf) fun Dn σ H ⟨T, H0, h, c, ns, v, l, D0, s, ⟨hl, hw⟩, ok⟩ => ⟨gE T, _, _, _, NE, s.rel, hw, fun y u H' q e' R' r => by
    have s' := s.ext e' R'.ok.2
    split at q
    · rw [r.int R']
      exact ok.nx _ _ _ _ q (s'.put _ hl)
    · exact q.elim, noerr⟩⟩
theorem dh_ret (he : DE X WN true e we) : DH X (.Return (some e) pos) (fun ns D v l => we (rhoH ns v l) (fun y => match y with
      | .int j => D.rt j v
      | _ => False) NE) :=
  ⟨PS.weak (ps_ret he.pe) fun Dn σ H ⟨T, H0, h, c, ns, v, l, D0, s, hw, ok⟩ => ⟨gE T, _, _, _, NE, s.rel, hw, fun y u H' q e' R' r => by
    have s' := s.ext e' R'.ok.2
    split at q
    · rw [r.int R']
      exact ok.rt _ v l σ H' q s'
    · exact q.elim, noerr⟩⟩
theorem dh_store {x : Str} {px tpos : Pos} {k : Int} {j : Nat} {kp : Pos} (he : DE X WN true e we) (hN : X.N[0]? = some x := by rfl) (hv : Vis X.env.scope x := by first | exact Or.inl rfl | exact Or.inr (Or.inl rfl) | exact Or.inr (Or.inr rfl)) (hd : (x == ("__debug__" : Str)) = false := by decide) (hcd : (x == ("__classdict__" : Str)) = false := by decide)
    (hsub : ∀ v, assign (.Subscript (.Name x px) (.Constant (.int k) j kp) tpos) X.env v = (do
      let ov ← holding [v] (eval (.Name x px) X.env)
      let iv ← holding [v, ov] (eval (.Constant (.int k) j kp) X.env)
      standAt tpos
      holding [v, ov, iv] (setItem ov iv v)
      release [v, ov, iv] []) := by intro _; rfl)
    (hs : swapsWithSole [.Subscript (.Name x px) (.Constant (.int k) j kp) tpos] e pos.line X.env = pure false := by rfl) (hw : swappedStores [.Subscript (.Name x px) (.Constant (.int k) j kp) tpos] e X.env = pure none := by rfl)
    (h1 : (assignEach [.Subscript (.Name x px) (.Constant (.int k) j kp) tpos] X.env).map (·.2) = [assign (.Subscript (.Name x px) (.Constant (.int k) j kp) tpos) X.env] := by rfl) : DH X (.Assign [.Subscript (.Name x px) (.Constant (.int k) j kp) tpos] e pos) (fun ns D v l => we (rhoH ns v l) (fun y => match y with
      | .int i => ∃ v', setV v k.toNat i = some v' ∧ 0 ≤ k ∧ D.nx v' l
      | _ => False) NE) :=
  ⟨PS.weak (ps_asg he.pe (pg_sub (pe_var hN hv hd hcd) pe_int set_list hsub) hs hw h1) fun Dn σ H ⟨T, H0, h, c, ns, v, l, D0, s, hw, ok⟩ => ⟨gE T, _, _, _, NE, s.rel, hw, fun y u H1 q e1 R1 r1 => by
    have s' := s.ext e1 R1.ok.2
    split at q
    · obtain ⟨v', h2, k0, h3⟩ := q
      obtain ⟨h4, h5⟩ := setV_lst (c := c) h2
      have r2 := r1.int R1
      subst r2
      refine ⟨.ref h, by rw [s'.s]; rfl, h, _, k, k.toNat, rfl, rfl, s'.e1, ?_, ?_⟩
      · show ixN 5 k = some k.toNat
        unfold ixN
        rw [if_pos k0, if_pos (by omega)]
      · rw [h4]
        exact ok.nx _ _ _ _ h3 s'.store
    · exact q.elim, noerr⟩⟩
end
end PL
end
section
set_option Elab.async false
set_option linter.all false
set_option maxRecDepth 100000
set_option maxHeartbeats 4000000
/-! The plain layer, 15: a def that draws from the hand. -/
namespace PL
open PySem PySem.Spec PyProof.Rows L2
variable [TabList]

def sp_draw : SPEC := fun xs Q _ => ∃ k : Int, xs = [.hnd, .int k] ∧ 1 ≤ k ∧ k < 1073741824 ∧ ∀ i : Int, 0 ≤ i → i < k → Q (.int i)
def spD : Sp := fun vs H Q _ => ∃ (T : List (Addr × Str)) (h c : Addr) (ns : List Int) (v : HV) (k : Int), vs = [.ref h, .int k] ∧ LamX.Tabs TabList.T H ∧ H h = some (handL c v) ∧ H c = some (.lst (ns.map V.int)) ∧ c ≠ h ∧ 0 ≤ v.1 ∧ 1 ≤ k ∧ k < 1073741824 ∧
  ∀ (i : Int) (v' : HV) (H' : Hp), 0 ≤ i → i < k → 0 ≤ v'.1 → H' h = some (handL c v') → LamX.Tabs TabList.T H' → Ext (fun b => b = h) H H' → Q (.int i) H'
section
variable {P : Program} {w0 : World} {K : PySem.W.Frag} {mg : Str → Option Value} {base : Heap} {x qual : Str} {st : Stmt} {N ps : List Str} {k : Nat} {f : Addr} {fd : FuncData} {w : WH}
theorem fn_draw1 (F : Fun K x qual st f fd) (S : FnScope N ps (defScope st)) (hp : ps.length = 2) (hN : 2 ≤ N.length)
    (hbody : ∀ (cdv : Value) (Ar : Around) (outer : List Env) (s : Shared) (H : Hp) (E : XK), Room k (Ar.deeper (envOfC qual (defScope st) s.heap.objs.size f cdv)) → DHs (cxOf (L2.CX P w0) P w0 K mg base N qual (defScope st) f cdv Ar outer s H E) (defBody st) w)
    (pure : ∀ (ns : List Int) (v : HV) (k : Int), 0 ≤ v.1 → 1 ≤ k → k < 1073741824 → w ns ⟨fun _ _ => False, fun i v' => 0 ≤ i ∧ i < k ∧ 0 ≤ v'.1⟩ v (some k :: List.replicate (N.length - 2) none)) : FnOk P w0 K mg base (L2.CX P w0) (k + 1) f fd ps spD := by
  refine F.okX S (fun vs H Q E ⟨T, h, c, ns, v, k, e, _⟩ => by rw [e, hp]; rfl) (fun cdv A outer s H vs Q E hr ⟨T, h, c, ns, v, j, e, t, e1, e2, ne, p0, k1, k2, q⟩ => ⟨_, (hbody cdv A outer s H E hr).ps, ?_⟩)
  subst e
  refine ⟨T, H, h, c, ns, v, some j :: List.replicate (N.length - 2) none, _, ⟨?_, t, e1, e2, ne, Ext.refl⟩, pure ns v j p0 k1 k2, ⟨fun _ _ _ _ z => z.elim, fun i v' l σ H' ⟨a, b, d⟩ s => q i v' H' a b d s.e1 s.t s.but⟩⟩
  unfold L2.start sigH
  rw [List.map_cons (f := Option.map V.int), List.map_replicate]
  rfl
theorem HOk.un {fs : List Addr} {H H' : Hp} {h : Addr} {v u : HO} {hp hp' : Heap} {o : HO} (un : Un fs [] (upd H h v) H' hp hp') (e : H h = some u) (nu : (∀ xs, u ≠ .tup xs) ∧ (∀ o xs, u ≠ .frz o xs) ∧ ∀ ps, u ≠ .tbl ps) : Un fs [] H (upd H' h o) hp hp' := by
  have hn : ∀ {b : Addr}, H b = none → b ≠ h := fun {b} q z => by rw [z, e] at q; cases q
  have up : ∀ {b : Addr}, b ≠ h → upd H h v b = H b := fun {b} n => upd_ne n
  refine ⟨fun b ob q n f ex => un.keep b ob q (by rw [up (hn n)]; exact n) f ex, fun b ob q n f ex => un.slot b ob q (by rw [up (hn n)]; exact n) f ex, fun b ob q n ex => ?_, un.there, fun b xs q => ?_, fun b ob xs q => ?_, fun b ps q => ?_⟩
  · rw [upd_ne (hn n)]
    exact un.free b ob q (by rw [up (hn n)]; exact n) ex
  · have n : b ≠ h := fun z => by rw [z, e] at q; exact nu.1 xs (Option.some.inj q)
    rw [upd_ne n]
    exact un.tups b xs (by rw [up n]; exact q)
  · have n : b ≠ h := fun z => by rw [z, e] at q; exact nu.2.1 ob xs (Option.some.inj q)
    rw [upd_ne n]
    exact un.frzs b ob xs (by rw [up n]; exact q)
  · have n : b ≠ h := fun z => by rw [z, e] at q; exact nu.2.2 ps (Option.some.inj q)
    obtain ⟨more, r⟩ := un.tbls b ps (by rw [up n]; exact q)
    exact ⟨more, by rw [upd_ne n]; exact r⟩
theorem tabs_hand {T : List (Addr × Str)} {H : Hp} {h c : Addr} {hp : Heap} {o : HO} (ok : HOk P w0 H hp) (t : LamX.Tabs T H) (e : H h = some (HandO h c)) : LamX.Tabs T (upd H h o) := fun p hp => by
  obtain ⟨ps, h1, h2, h3⟩ := t p hp
  have n1 : p.1 ≠ h := fun z => by
    rw [z, e] at h1
    cases h1
  refine ⟨ps, by rw [upd_ne n1]; exact h1, h2, fun pos cv hc => ?_⟩
  obtain ⟨d, e1, e2⟩ := h3 pos cv hc
  have n2 : d ≠ h := fun z => by
    obtain ⟨⟨p, r, m, n, t1, t2, t3, t4, k, p0, hg⟩, _, _⟩ := (show ObjOk P w0 H _ h (HandO h c) from ok h _ e)
    rw [z] at e2
    obtain ⟨⟨oc, vs, t, hg2, hd, _⟩, _, _⟩ := (show ObjOk P w0 H _ h (LamX.CodeO h _) from ok h _ e2)
    rw [hg] at hg2
    cases hg2
    cases hd
  exact ⟨d, e1, by rw [upd_ne n2]; exact e2⟩
theorem fn_draw2 (F : FnOk P w0 K mg base (L2.CX P w0) k f fd ps spD) (hp : ps.length = 2) : FnOk P w0 K mg base (L2.CX P w0) k f fd ps (toSp K sp_draw) := by
  refine ⟨fun vs H Q E ⟨g, xs, Q0, E0, _, _, r, ⟨j, e, _⟩, _⟩ => by rw [← r.length, e, hp]; rfl, fun A outer s H args us vs Q E hr e0 hb rv ⟨g, xs, Q0, E0, gok, hav, r, ⟨j, e, k1, k2, q⟩, hq, _⟩ => ?_⟩
  subst e
  cases r with
  | cons r rr =>
    cases rr with
    | cons r2 rr =>
      cases rr
      cases r2
      cases r with
      | @hnd h c ns h1 n1 h2 n2 =>
        obtain ⟨v, p0, ok1⟩ := hnd_open e0.hok h1
        have ne : c ≠ h := fun z => by rw [z, h1] at h2; cases h2
        have nn : ∀ {b : Addr}, H b = none → b ≠ h := fun {b} q z => by rw [z, h1] at q; cases q
        have e1 : Env0 P w0 K mg base A outer s (upd H h (handL c v)) := ⟨e0.frames, e0.mod, fun b o q => ⟨(e0.bs b o q).1, by rw [upd_ne (nn (e0.bs b o q).2)]; exact (e0.bs b o q).2⟩, e0.bsz, e0.funs, fun b q => by rw [upd_ne (nn (e0.frf b q))]; exact e0.frf b q, ok1, e0.bare⟩
        have t1 : LamX.Tabs TabList.T (upd H h (handL c v)) := tabs_hand e0.hok gok.2 h1
        refine codeAny_mono (F.run A outer s (upd H h (handL c v)) args us [.ref h, .int j] (fun u H' => ∃ (i : Int) (v' : HV), u = .int i ∧ 0 ≤ i ∧ i < j ∧ 0 ≤ v'.1 ∧ H' h = some (handL c v') ∧ LamX.Tabs TabList.T H' ∧ Ext (fun b => b = h) (upd H h (handL c v)) H') (fun _ _ _ => False) hr e1 hb rv
          ⟨g.T, h, c, ns, v, j, rfl, t1, upd_same, by rw [upd_ne ne]; exact h2, ne, p0, k1, k2, fun i v' H' a b d x y z => ⟨i, v', rfl, a, b, d, x, y, z⟩⟩) fun r s' hcr => ?_
        cases r with
        | error u =>
          obtain ⟨_, _, _, _, _, _, _, _, _, _, _, _, z⟩ := hcr
          exact z.elim
        | ok fl =>
          cases fl with
          | ret u =>
            obtain ⟨w, H', os, bare, un, hok, rw', i, v', rfl, a, b, d, x, y, z⟩ := hcr
            have E2 : ∀ ch, Ext ch H (upd H' h (HandO h c)) := fun ch => ⟨fun b' o q' _ nt => by
              by_cases zz : b' = h
              · rw [zz, h1] at q'
                rw [zz, upd_same]
                exact q'
              · rw [upd_ne zz]
                exact z.keep b' o (by rw [upd_ne zz]; exact q') zz nt, fun b' ⟨u, h1', h2'⟩ => by
              by_cases zz : b' = h
              · rw [zz]
                exact .of upd_same
              · obtain ⟨u2, k1', k2'⟩ := z.there b' ⟨u, by rw [upd_ne zz]; exact h1', h2'⟩
                exact ⟨u2, by rw [upd_ne zz]; exact k1', k2'⟩⟩
            have gok2 : g.ok (upd H' h (HandO h c)) := by
              refine ⟨fun a' c' e' => ?_, tabs_upd y x (by exact True.intro)⟩
              obtain ⟨ns', p', r', m', n', q1, q2, q3⟩ := gok.1 a' c' e'
              exact ⟨ns', p', r', m', n', (E2 (fun _ => False)).keep _ _ q1 (fun z => z) (fun _ z => by cases z), (E2 (fun _ => False)).keep _ _ q2 (fun z => z) (fun _ z => by cases z), q3⟩
            refine ⟨.int i, upd H' h (HandO h c), os, bare, HOk.un un h1 ⟨fun _ z => (by cases z), fun _ _ z => (by cases z), fun _ z => (by cases z)⟩, hnd_close hok x d, rw', ?_⟩
            exact hq (.int i) (.int i) _ (q i a b) (E2 _) gok2 (.int i)
          | next => exact False.elim hcr
          | brk => exact False.elim hcr
          | cont => exact False.elim hcr
theorem fn_draw (A : FnAt K mg x qual st ps) (S : FnScope N ps (defScope st)) (hp : ps.length = 2) (hN : 2 ≤ N.length)
    (hbody : ∀ (cdv : Value) (Ar : Around) (outer : List Env) (s : Shared) (H : Hp) (E : XK), Room k (Ar.deeper (envOfC qual (defScope st) s.heap.objs.size A.f cdv)) → DHs (cxOf (L2.CX P w0) P w0 K mg base N qual (defScope st) A.f cdv Ar outer s H E) (defBody st) w)
    (pure : ∀ (ns : List Int) (v : HV) (k : Int), 0 ≤ v.1 → 1 ≤ k → k < 1073741824 → w ns ⟨fun _ _ => False, fun i v' => 0 ≤ i ∧ i < k ∧ 0 ≤ v'.1⟩ v (some k :: List.replicate (N.length - 2) none)) : FnSp P w0 K mg base A (k + 1) sp_draw := fn_draw2 (fn_draw1 A.F S hp hN hbody pure) hp
end
end PL
end
section
set_option Elab.async false
set_option linter.all false
set_option maxRecDepth 100000
set_option maxHeartbeats 4000000
/-! The plain layer, 16: a hand is made. -/
namespace PL
open PySem PySem.Spec PyProof.Rows L2
variable [TabList]
theorem cut_map {α : Type} (f : α → D) (l : List α) (lo hi : Option Int) : ∃ l' : List α, cutD (l.map f) lo hi = l'.map f ∧ l'.length ≤ l.length := by
  refine ⟨(l.drop (HT.sIx l.length 0 lo)).take (HT.sIx l.length l.length hi - HT.sIx l.length 0 lo), ?_, ?_⟩
  · unfold cutD
    rw [List.length_map, List.map_take, List.map_drop]
  · rw [List.length_take, List.length_drop]
    omega
theorem merge_kvF {F : Int → D} : ∀ (ns ks : List Int), ks.Nodup → ∃ ks' : List Int, mergeD (kvF F ks) (ns.map fun k => ((.inl k, F k) : Key × D)) = kvF F ks' ∧ ks'.Nodup ∧ ∀ x, x ∈ ks' ↔ x ∈ ks ∨ x ∈ ns
  | [], ks, h => ⟨ks, rfl, h, fun x => by simp⟩
  | n :: ns, ks, h => by
    obtain ⟨ks', h1, h2, h3⟩ := merge_kvF (F := F) ns (addK ks n) (nodup_addK h)
    refine ⟨ks', ?_, h2, fun x => ?_⟩
    · rw [← h1]
      show mergeD (putG (kvF F ks) (.inl n) (F n)) _ = _
      rw [putG_kvF]
      congr 1
      refine kvF_congr fun k _ => ?_
      unfold updF
      by_cases e : k = n
      · rw [if_pos e, e]
      · rw [if_neg e]
    · rw [h3, mem_addK, List.mem_cons]
      constructor
      · rintro ((a | a) | a)
        · exact .inl a
        · exact .inr (.inl a)
        · exact .inr (.inr a)
      · rintro (a | a | a)
        · exact .inl (.inl a)
        · exact .inl (.inr a)
        · exact .inr a
theorem count_ints (k : Int) : ∀ ns : List Int, (ns.map D.int).countP (fun z => eqD z (.int k)) = ns.count k
  | [] => rfl
  | n :: ns => by
    rw [List.map_cons, List.countP_cons, List.count_cons, count_ints k ns]
    have e0 : (if (eqD (D.int n) (D.int k)) = true then 1 else 0) = (if (n == k) = true then 1 else 0 : Nat) := ?_
    · rw [e0]
    show (if decide (n = k) = true then 1 else 0) = if (n == k) = true then 1 else 0
    by_cases e : n = k <;> simp [e]
theorem all_flat (ns : List Int) : (ns.map D.int).all flatD = true := by
  rw [List.all_map]
  exact List.all_eq_true.mpr fun _ _ => rfl
theorem keysort {ks ns ns' : List Int} (hd : ks.Nodup) (hm : ∀ x, x ∈ ks ↔ x ∈ ns) (hp : ns'.Perm ks) (hs : ns'.Pairwise (· ≤ ·)) : ns' = keys ns := by
  refine keys_uniq ?_ fun x => by rw [hp.mem_iff]; exact hm x
  have hn : ns'.Nodup := hp.nodup_iff.mpr hd
  exact (List.Pairwise.and hn hs).imp fun {a b} h => by
    have h1 : a ≠ b := h.1
    have h2 : a ≤ b := h.2
    omega
theorem hif_of {wt : WT} {a b : Prop} {ρ : PSt} (c : Bool) (h : ∀ (Q : Bool → Prop) (E : Err → Prop), Q c → wt ρ Q E) (k1 : c = true → a) (k2 : c = false → b) : wt ρ (fun k => match k with
    | true => a
    | false => b) NE := by
  refine h _ _ ?_
  cases c
  · exact k2 rfl
  · exact k1 rfl
theorem cm_mod {x b c : Int} (b0 : 0 < b) (hb : b ≤ 2 ^ 64) : CMul (x % b) c := .inl ⟨by have := Int.emod_nonneg x (show b ≠ 0 by omega); omega, by have := Int.emod_lt_of_pos x b0; omega⟩
theorem cm_r {a b : Int} (h : -(2 ^ 64) < b) (h2 : b < 2 ^ 64) : CMul a b := .inr ⟨h, h2⟩
theorem cm_l {a b : Int} (h : -(2 ^ 64) < a) (h2 : a < 2 ^ 64) : CMul a b := .inl ⟨h, h2⟩
def wHand (we : WE) : WE := fun ρ Q E => we ρ (fun x => ∃ ns v, x = hD ns v ∧ 0 ≤ v.1 ∧ Q .hnd) E
section
variable {X : Cx} {W : WX} {m : Bool} {e : Expr} {we : WE}
theorem pe_hand {t : TE} (he : PE X e t) : PE X e (fun σ H Q => t σ H fun u H1 => ∃ (h c : Addr) (v : HV), u = .ref h ∧ H1 h = some (handL c v) ∧ 0 ≤ v.1 ∧ Q (.ref h) (upd H1 h (HandO h c))) := by
  refine ⟨fun pins s σ H Q I q => thn (he.run pins s σ H _ I q) fun u s1 ⟨x, H1, I1, r1, h, c, v, e1, e2, p0, q1⟩ => ?_⟩
  subst e1
  cases r1
  have ok := hnd_close I1.hok e2 p0
  obtain ⟨ob, hob⟩ := objOk_get (I1.hok h _ e2)
  exact ⟨.ref h, upd H1 h (HandO h c), I1.write (e := h) (h' := s1.heap) (t' := s1.toks) (by rw [e2]; exact True.intro) (.inl rfl) (fun b u _ q => q) ⟨_, hob⟩ (ok h _ upd_same), rfl, q1⟩
theorem de_hand (he : DF X W e we) : DE X W m e (wHand we) :=
  ⟨PE.weak (pe_hand he.pe) fun σ H Q ⟨g, H0, ρ, Q0, E0, R, hw, hq, he⟩ => ⟨g, H0, ρ, _, E0, R, hw, fun x a H' ⟨ns, v, e1, p0, q⟩ e' R' n o => by
    subst e1
    cases o with
    | lst hl r =>
      cases r with
      | cons r0 r =>
        cases r0 with
        | @lst c cs _ hc nc rc =>
          have ec := rc.ints
          subst ec
          cases r with
          | cons r1 r =>
            cases r1
            cases r with
            | cons r2 r =>
              cases r2
              cases r with
              | cons r3 r =>
                cases r3
                cases r with
                | cons r4 r =>
                  cases r4
                  cases r
                  have nca : c ≠ a := fun z => nc (.inr z)
                  have na : ¬ g.av a := fun z => n (R.avt a z)
                  refine ⟨a, c, v, rfl, hl, p0, ?_⟩
                  have E2 : Ext g.ch H (upd H' a (HandO a c)) := ⟨fun b o q nb nt => by
                    have n1 : b ≠ a := fun z => n (by rw [← z]; exact ⟨o, q, nt⟩)
                    rw [upd_ne n1]
                    exact e'.keep b o q nb nt, fun b q => by
                    have nb : b ≠ a := fun z => n (by rw [← z]; exact q)
                    obtain ⟨u, h1, h2⟩ := e'.there b q
                    exact ⟨u, by rw [upd_ne nb]; exact h1, h2⟩⟩
                  have ok2 : g.ok (upd H' a (HandO a c)) := R'.ok.upd hl (by exact True.intro) na
                  exact hq .hnd _ _ q E2 (R.step E2 ok2) (.inl (.hnd upd_same (R.fresh n) (by rw [upd_ne nca]; exact hc) fun z => nc (.inl z))), he⟩⟩
end
end PL
end
section
set_option Elab.async false
set_option linter.all false
set_option maxRecDepth 100000
set_option maxHeartbeats 4000000
/-! The plain layer, 17: x(lambda: body), a try in a def that got a lambda. -/
namespace PL
open PySem PySem.Spec PyProof.Rows L2
variable [TabList]
section
variable {X : Cx} {W : WX} {m m1 m2 : Bool} {a b c e : Expr} {wa wb we : WE} {pos p p1 p2 : Pos} {K : PySem.W.Frag}
/-- an expression that is not come to -/
theorem de_bot : DE X W m e (fun _ _ _ => False) := ⟨⟨fun pins s σ H Q I ⟨_, _, _, _, _, _, z, _⟩ => z.elim⟩⟩
def fEqS (neg : Bool) : D → D → (D → Prop) → Prop := fun x y Q => match x, y with
  | .int i, .int j => Q (.bl (if neg then !decide (i = j) else decide (i = j)))
  | .str i, .str j => Q (.bl (if neg then !decide (i = j) else decide (i = j)))
  | _, _ => False
theorem rb_eqS : RB K rEq (fEqS false) m1 m2 m := fun g H0 ρ σ H x y v u Q0 Q R hf r1 r2 k => by
  unfold fEqS at hf
  split at hf
  · rw [r1.int R, r2.int R]
    refine ⟨rfl, k _ _ H hf (Evl.Ex.refl H) (.inl ?_)⟩
    rename_i i j
    have e : decide (V.int i = V.int j) = decide (i = j) := decide_eq_decide.mpr ⟨fun h => V.int.inj h, fun h => by rw [h]⟩
    rw [e]
    exact .bl _
  · rw [r1.str R, r2.str R]
    refine ⟨rfl, k _ _ H hf (Evl.Ex.refl H) (.inl ?_)⟩
    rename_i i j
    have e : decide (V.str i = V.str j) = decide (i = j) := decide_eq_decide.mpr ⟨fun h => V.str.inj h, fun h => by rw [h]⟩
    rw [e]
    exact .bl _
  · exact hf.elim
theorem de_eqS (ha : DE X W m1 a wa) (hb : DE X W m2 b wb) : DE X W m (.Compare a [.Eq] [b] pos) (wB (fEqS false) wa wb) := de_cmp op_eq rb_eqS ha hb (nomark _)
theorem dt_eqS (ha : DE X W m1 a wa) (hb : DE X W m2 b wb) : DT X W (.Compare a [.Eq] [b] pos) (wTB (wB (fEqS false) wa wb)) := dt_cmp op_eq rb_eqS ha hb (nomark _)
end
/-! ### the suite of an except clause -/
def wIsE (i : Nat) (a : Addr) (b : Bool) : WE := fun ρ Q _ => ρ[i]? = some (some (.d (.ref a))) ∧ Q (.bl b)
section
variable {X : Cx} {m : Bool} {a D : Addr} {oe : Obj} {pn : List (Addr × Obj)} {x y z : Str} {p p1 p2 pos : Pos} {b : Bool}
theorem de_isE (i : Nat) (C : ExcC X.K D) (hz : Zc (.ref D) none oe) (hf : ∃ vs, oe.data = .fields vs) {A : Addr} (hk : PySem.W.kitOne X.K (.ref D) (.ref A) = some b) (hc : X.mg z = some (.ref A)) (hm : X.mg x = none) (hv : bootBuiltins x = some (.builtin "isinstance"))
    (hN : X.N[i]? = some y := by rfl) (hvy : Vis X.env.scope y := by first | exact Or.inl rfl | exact Or.inr (Or.inl rfl) | exact Or.inr (Or.inr rfl)) (hdy : (y == ("__debug__" : Str)) = false := by decide) (hcd : (y == ("__classdict__" : Str)) = false := by decide)
    (hg : Gl X x := by rfl) (hgz : Gl X z := by rfl) (hn : x ≠ "__name__" := by decide) (hdb : (x == ("__debug__" : Str)) = false := by decide) (hdz : (z == ("__debug__" : Str)) = false := by decide)
    (h1 : starEach [.Name y p1, .Name z p2] (X.suite a ((a, oe) :: pn)).env = (false, eval (.Name y p1) (X.suite a ((a, oe) :: pn)).env) :: starEach [.Name z p2] (X.suite a ((a, oe) :: pn)).env := by rfl)
    (h2 : starEach [.Name z p2] (X.suite a ((a, oe) :: pn)).env = (false, eval (.Name z p2) (X.suite a ((a, oe) :: pn)).env) :: starEach [] (X.suite a ((a, oe) :: pn)).env := by rfl)
    (hpl : (backTo pos (starEach [.Name z p2] (X.suite a ((a, oe) :: pn)).env)).any (·.1) = false := by rfl) : DE (X.suite a ((a, oe) :: pn)) WN m (.Call (.Name x p) [.Name y p1, .Name z p2] [] pos) (wIsE i a b) :=
  ⟨PE.weak (pe_callB (call_isE C hz hf) hg hm hv (pa_cons (pe_var (i := i) hN hvy hdy hcd) (pa_cons (pe_glob (v := .ref A) hgz hc rfl hdz) pa_nil h2) h1) hn hdb h1 hpl) fun σ H Q ⟨g, H0, ρ, Q0, E0, R, ⟨hw, q⟩, hq, _⟩ => by
    obtain ⟨v, e1, e2⟩ := R.dat i _ hw
    cases e2
    exact ⟨_, e1, _, .ref A, b, rfl, fun u hu => hu, hk, hq _ _ H q Ext.refl R (.inl (.bl b))⟩⟩
theorem de_isET (i : Nat) (C : ExcC X.K D) (hz : Zc (.ref D) none oe) (hf : ∃ vs, oe.data = .fields vs) {n : String} (hk : PySem.W.kitOne X.K (.ref D) (.type n) = some b) (hc : X.mg z = none) (hvz : bootBuiltins z = some (.type n)) (hm : X.mg x = none) (hv : bootBuiltins x = some (.builtin "isinstance"))
    (hN : X.N[i]? = some y := by rfl) (hvy : Vis X.env.scope y := by first | exact Or.inl rfl | exact Or.inr (Or.inl rfl) | exact Or.inr (Or.inr rfl)) (hdy : (y == ("__debug__" : Str)) = false := by decide) (hcd : (y == ("__classdict__" : Str)) = false := by decide)
    (hg : Gl X x := by rfl) (hgz : Gl X z := by rfl) (hn : x ≠ "__name__" := by decide) (hdb : (x == ("__debug__" : Str)) = false := by decide) (hnz : z ≠ "__name__" := by decide) (hdz : (z == ("__debug__" : Str)) = false := by decide)
    (h1 : starEach [.Name y p1, .Name z p2] (X.suite a ((a, oe) :: pn)).env = (false, eval (.Name y p1) (X.suite a ((a, oe) :: pn)).env) :: starEach [.Name z p2] (X.suite a ((a, oe) :: pn)).env := by rfl)
    (h2 : starEach [.Name z p2] (X.suite a ((a, oe) :: pn)).env = (false, eval (.Name z p2) (X.suite a ((a, oe) :: pn)).env) :: starEach [] (X.suite a ((a, oe) :: pn)).env := by rfl)
    (hpl : (backTo pos (starEach [.Name z p2] (X.suite a ((a, oe) :: pn)).env)).any (·.1) = false := by rfl) : DE (X.suite a ((a, oe) :: pn)) WN m (.Call (.Name x p) [.Name y p1, .Name z p2] [] pos) (wIsE i a b) :=
  ⟨PE.weak (pe_callB (call_isE C hz hf) hg hm hv (pa_cons (pe_var (i := i) hN hvy hdy hcd) (pa_cons (pe_bltn (v := .ty n) hgz hc hvz rfl hnz hdz) pa_nil h2) h1) hn hdb h1 hpl) fun σ H Q ⟨g, H0, ρ, Q0, E0, R, ⟨hw, q⟩, hq, _⟩ => by
    obtain ⟨v, e1, e2⟩ := R.dat i _ hw
    cases e2
    exact ⟨_, e1, _, .type n, b, rfl, fun u hu => hu, hk, hq _ _ H q Ext.refl R (.inl (.bl b))⟩⟩
end
/-! ### the def that calls what it got -/
/-- what is made of the lambda: the text ret for an error of the class C, told with nothing, else the text lt -/
def TWord (C : Addr) (lt ret : Str) : (XK → Hp → VK → Prop) → Hp → VK → Prop := fun tl H Q =>
  tl (fun cls d H' => cls = .ref C ∧ d = none ∧ LamX.Tabs TabList.T H' ∧ ∀ H'', Ext (fun _ => False) H' H'' → LamX.Tabs TabList.T H'' → Q (.str ret) H'') H (fun _ H' => Q (.str lt) H')
/-- the suite, of an error of the class C: slot 2 the error, slot 1 the word -/
def SuiteOk (X : Cx) (C : Addr) (ret : Str) (suite : List Stmt) : Prop :=
  ∀ (a : Addr) (oe : Obj) (pn : List (Addr × Obj)), Zc (.ref C) none oe → (∃ vs, oe.data = .fields vs) → ∃ w : WS, DSs (X.suite a ((a, oe) :: pn)) WN suite w ∧
    ∀ D : PEnds, (∀ ρ, ρ[1]? = some (some (.d (.str ret))) → D.nx ρ) → w D [none, none, some (.d (.ref a)), none, none]
theorem rel_suite {T : List (Addr × Str)} {K : PySem.W.Frag} {H : Hp} {σ : L2.St} {a : Addr} (t : LamX.Tabs TabList.T H) (hl : σ.length = 5) (h2 : σ[2]? = some (some (.ref a))) : Rel K (gE T) ⟨H, fun _ => False⟩ [none, none, some (.d (.ref a)), none, none] σ H where
  ok := gE_ok t
  ext := Ext.refl
  gch := fun a ⟨_, e⟩ => nomatch (show none = some _ from e)
  len := by rw [hl]; rfl
  avt := fun b z => z.elim
  dat := fun i x q => by
    match i, q with
    | 2, q =>
      cases q
      exact ⟨_, h2, .ref a⟩
    | 0, q => cases q
    | 1, q => cases q
    | 3, q => cases q
    | 4, q => cases q
    | i + 5, q => cases q
  own := fun i x q => by
    match i, q with
    | 0, q => cases q
    | 1, q => cases q
    | 2, q => cases q
    | 3, q => cases q
    | 4, q => cases q
    | i + 5, q => cases q
  dis := fun i _ x _ _ q => by
    match i, q with
    | 0, q => cases q
    | 1, q => cases q
    | 2, q => cases q
    | 3, q => cases q
    | 4, q => cases q
    | i + 5, q => cases q
section
variable {X : Cx}
theorem word_gives {Ng : List Str} {x a w e n q lt ret : Str} {sg : Scope} {g CS C : Addr} {cdg : Value} {j : Nat} {b₀ : Stmt} {suite : List Stmt} {p1 p2 p3 p4 p5 p6 p7 p8 p9 p10 pw : Pos} (hN : Ng = [a, w, n, Ng.getD 3 "", Ng.getD 4 ""]) (hnd : Ng.Nodup) (hge : sg.names.lookup e = some .globalImplicit) (hme : X.mg e = some (.ref CS)) (hde : (e == ("__debug__" : Str)) = false)
    (hw : sg.names.lookup w = some .local) (hn : sg.names.lookup n = some .local) (hkn : sg.kind = .function) (hdw : (w == ("__debug__" : Str)) = false) (hcw : (w == ("__classdict__" : Str)) = false) (hx : PySem.W.exmOne X.K (.ref C) (.ref CS) = some true)
    (hs : ∀ (f : Addr) (s : Shared) (H : Hp), SuiteOk (cxOf C8.CX0 X.prog X.w X.K X.mg X.base Ng x sg g cdg X.A X.stack s H C8.E0).nox C ret (b₀ :: suite))
    (hsw : ∀ (f : Addr) (s : Shared) (H : Hp), swapsWith (.Constant (.str lt) j p1) (some (.Name w pw)) p2.line (cxOf C8.CX0 X.prog X.w X.K X.mg X.base Ng x sg g cdg X.A X.stack s H C8.E0).nox.env = pure false)
    (hsw2 : ∀ (f : Addr) (s : Shared) (H : Hp), swapsWith (.Call (.Name a p3) [] [] p4) none p5.line (cxOf C8.CX0 X.prog X.w X.K X.mg X.base Ng x sg g cdg X.A X.stack s H C8.E0).nox.env = pure false) :
    LamX.GivesTo X Ng x sg g cdg [.Assign [.Name w pw] (.Constant (.str lt) j p1) p2, .Try [.Expr (.Call (.Name a p3) [] [] p4) p5] [.ExceptHandler (some (.Name e p6)) (some n) (b₀ :: suite) p7] [] [] p8, .Return (some (.Name w p9)) p10] a q (TWord C lt ret) := by
  intro f c' s H Q tl act hc h
  have hgl : Gl (cxOf C8.CX0 X.prog X.w X.K X.mg X.base Ng x sg g cdg X.A X.stack s H C8.E0).nox e := hge
  have hN1 : Ng[1]? = some w := by rw [hN]; rfl
  have hN2 : Ng[2]? = some n := by rw [hN]; rfl
  have hlen : Ng.length = 5 := by rw [hN]; rfl
  refine ⟨_, pss_cons (ps_set (X := (cxOf C8.CX0 X.prog X.w X.K X.mg X.base Ng x sg g cdg X.A X.stack s H C8.E0).nox) (i := 1) hnd hN1 (Or.inl hw) pe_str (hsw f s H) (.inl rfl)) (pss_cons (ps_try_as (X := (cxOf C8.CX0 X.prog X.w X.K X.mg X.base Ng x sg g cdg X.A X.stack s H C8.E0).nox) (c := .ref CS) (i := 2)
      (tb := fun W D σ H => ∃ Ech : XK, (∀ cls d σ' H', Ech cls d H' → W cls d σ' H') ∧ σ[0]? = some (some (.ref f)) ∧ H c' = some (LamX.CodeO c' q) ∧ tl Ech H (fun _ H' => D.nx σ H'))
      (ts := fun a cls d Dn σ H => cls = .ref C ∧ d = none ∧ (σ.length = 5 → σ[2]? = some (some (.ref a)) ∧ LamX.Tabs TabList.T H ∧ ∀ (σ2 : L2.St) (H'' : Hp), σ2[1]? = some (some (.str ret)) → Ext (fun _ => False) H H'' → LamX.Tabs TabList.T H'' → Dn.nx σ2 H''))
      rfl rfl hnd hN2 hn ⟨hgl, hde, .inl hme⟩ LamX.takes0 (fun W pn xe tk _ => ?_) (fun a oe cls d pn hz hf => ?_)) (pss_one (ps_ret (pe_var (i := 1) hN1 (Or.inl hw) hdw hcw)))), ?_⟩
  · refine ⟨fun pins s' σ H' D I h' => ?_⟩
    obtain ⟨Ech, hW, h1, h2, h3⟩ := h'
    have hp := act W pn xe Ech p3 p4 tk hW
    have hq := pss_one (ps_expr (pos := p5) hp (hsw2 f s H))
    exact hq.run pins s' σ H' D I ⟨h1, h2, h3⟩
  · refine ⟨fun pins s' σ H' D I ⟨e1, e2, h'⟩ => ?_⟩
    subst e1 e2
    have hl : σ.length = 5 := I.len.trans hlen
    obtain ⟨h2, t, k⟩ := h' hl
    obtain ⟨w', hw', hp⟩ := hs f s H a oe pn hz hf
    refine hw'.ps.run pins s' σ H' D I ⟨gE [], ⟨H', fun _ => False⟩, _, ⟨fun ρ => ρ[1]? = some (some (.d (.str ret))), fun _ _ => False, fun _ => False, fun _ => False, fun _ => False⟩, rel_suite t hl h2, hp _ (fun ρ q => q), ⟨fun ρ σ2 H2 q R => ?_, fun _ _ _ _ _ z => z.elim, fun _ _ _ z => z.elim, fun _ _ _ z => z.elim, fun _ _ _ _ _ _ z => z.elim⟩⟩
    obtain ⟨v, e1, e2⟩ := R.dat 1 _ q
    cases e2
    exact k σ2 H2 e1 R.ext R.ok.2
  · have e0 : (L2.start Ng [V.ref f])[0]? = some (some (.ref f)) := by rw [hN]; rfl
    refine ⟨fun cls d H' => cls = .ref C ∧ d = none ∧ LamX.Tabs TabList.T H' ∧ ∀ H'', Ext (fun _ => False) H' H'' → LamX.Tabs TabList.T H'' → Q (.str ret) H'', fun cls d σ' H' ⟨q1, q2, q3, q4⟩ => ⟨true, by rw [q1]; exact hx, fun _ a na => ⟨q1, q2, fun hl => ⟨List.getElem?_set_self (by rw [List.length_set] at hl; omega), q3, fun σ2 H'' h1 h2 h3 => ?_⟩⟩, fun z => nomatch z⟩, ?_, hc, ?_⟩
    · refine ⟨.str ret, ?_, q4 H'' h2 h3⟩
      rw [List.getElem?_set_ne (by decide)]
      exact h1
    · rw [List.getElem?_set_ne (by decide)]
      exact e0
    · have e3 : (fun (_ : V) (H' : Hp) => Q (.str lt) H') = fun _ H' => tRet (tVar 1) { nx := fun _ H' => Q .non H', rt := Q } ((L2.start Ng [V.ref f]).set 1 (some (.str lt))) H' := by
        funext _ H'
        refine propext ⟨fun q => ⟨.str lt, ?_, q⟩, fun ⟨v, e1, q⟩ => ?_⟩
        · rw [hN]; rfl
        · rw [hN] at e1
          cases e1
          exact q
      have h' : tl _ H (fun _ H' => Q (.str lt) H') := h
      rw [e3] at h'
      exact h'
end
/-! ### x(lambda: body), by what the body is worth -/
def wWord (C : Addr) (lt ret : Str) (we : WE) : WE := fun ρ Q _ => we ρ (fun _ => Q (.str lt)) (fun er => er = ⟨C, []⟩ ∧ Q (.str ret))
theorem ext_N {ch : Addr → Prop} {H H1 : Hp} (e : LamX.ExtN H H1) : Ext ch H H1 := ⟨fun a o h _ nt => e a o h nt, fun a ⟨o, h, n⟩ => ⟨o, e a o h n, n⟩⟩
theorem Ext.weak {ch : Addr → Prop} {H H1 : Hp} (e : Ext (fun _ => False) H H1) : Ext ch H H1 := ⟨fun a o h _ nt => e.keep a o h (fun z => z) nt, e.there⟩
theorem ok_ext {g : G} {H H1 : Hp} (x : g.ok H) (e : Ext (fun _ => False) H H1) (t : LamX.Tabs TabList.T H1) : g.ok H1 := ⟨fun h c q => by
  obtain ⟨ns, p, r, m, n, h1, h2, h3⟩ := x.1 h c q
  exact ⟨ns, p, r, m, n, e.keep _ _ h1 (fun z => z) (fun _ z => by cases z), e.keep _ _ h2 (fun z => z) (fun _ z => by cases z), h3⟩, t⟩
section
variable {X : Cx} {W : WX} {m : Bool}
theorem de_word {x a lt ret : Str} {g c P C : Addr} {k : Nat} {pg : Arguments} {bg : List Stmt} {sg : Scope} {dV kV doc pm cdv ct oc : Value} {an od : Option Addr} {osl : Array (Option Value)} {Ng : List Str} {we : WE}
    {params : Arguments} {body : Expr} {scope : Scope} {p lpos pos : Pos} (hm : X.mg x = some (.ref g)) (hk : PySem.W.keepIn X.K (.ref g) = true)
    (lk : X.K.lookup g = some ⟨oc, od, .func (PySem.W.fnOf x x pg bg sg dV kV doc pm an cdv ct), osl⟩) (hcg : PySem.W.codeIn X.K cdv x = true) (hb : L2.Binds X.K (PySem.W.fnOf x x pg bg sg dV kV doc pm an cdv ct) [a] []) (Sg : FnScope Ng [a] sg) (hNg : Ng[0]? = some a) (hva : Vis sg a)
    (hG : LamX.GivesTo X Ng x sg g cdv bg a (X.env.qual ++ "<lambda>") (TWord C lt ret))
    (TB : LamX.TabB X.base X.mg c P) (hcode : X.env.code = .ref c) (hmT : (P, X.env.qual ++ "<lambda>") ∈ TabList.T) (hu : ∀ p ∈ TabList.T, p.1 = P → p.2 = X.env.qual ++ "<lambda>") (hr : Room (k + 2) X.A)
    (hbody : ∀ (A : Around) (outer : List Env) (s : Shared) (H : Hp) (E : XK) (f c' : Addr), Room k (A.deeper (LamX.lamEnv X scope s.heap.objs.size f c')) → DE (LamX.lamCx X A outer s H E scope f c') (fun cls d _ H => E cls d H) true body we)
    (L : LamX.LamS X.env.scope scope) (hdef : defaultsOf params X.env = ([], []) := by rfl)
    (hbind : ∀ (q : Str) (cl : List (Str × Addr)) (pm cv ctv : Value), bindArgs (PySem.W.kla_fn "<lambda>" q params body scope cl pm cv ctv) ⟨[], []⟩ = pure [] := by intro _ _ _ _ _; rfl)
    (hg : Gl X x := by rfl) (hdb : (x == ("__debug__" : Str)) = false := by decide) (hd : (a == ("__debug__" : Str)) = false := by decide) (hcd : (a == ("__classdict__" : Str)) = false := by decide) :
    DE X W m (.Call (.Name x p) [.Lambda params body scope lpos] [] pos) (wWord C lt ret we) :=
  ⟨PE.weak (LamX.pe_lamcall (T := TabList.T) (t := fun E => up X.K we (fun cls d _ H => E cls d H) true) hg hm hk lk hcg hb Sg hNg hva hG TB hcode hmT hu hr L hdef hbind (fun A outer s H E f c' hr' => (hbody A outer s H E f c' hr').pe) hdb hd hcd) fun σ H Q ⟨g, H0, ρ, Q0, E0, R, hw, hq, he⟩ => ⟨R.ok.2, fun H1 eN t1 => by
    have E1 : Ext g.ch H H1 := ext_N eN
    have R1 : Rel X.K g H0 ρ σ H1 := R.step E1 (ok_ext R.ok (ext_N eN) t1)
    refine ⟨g, H0, ρ, _, _, R1, hw, fun y v H2 q e2 R2 r2 => hq (.str lt) (.str lt) H2 q (E1.trans e2) R2 (.inl (.str lt)), fun er cls d H' q e' R' ei => ?_⟩
    obtain ⟨e0, q⟩ := q
    subst e0
    obtain ⟨h1, ⟨_, h2⟩ | ⟨_, _, h0, _⟩⟩ := ei
    · refine ⟨h1, h2, R'.ok.2, fun H'' e'' t'' => ?_⟩
      exact hq (.str ret) (.str ret) H'' q ((E1.trans e').trans e''.weak) (R'.step e''.weak (ok_ext R'.ok e'' t'')) (.inl (.str ret))
    · exact absurd rfl h0⟩⟩
end
end PL
end
section
set_option Elab.async false
set_option linter.all false
set_option maxRecDepth 100000
set_option maxHeartbeats 4000000
/-! The plain layer, 18: defs that hold lambdas; the end of a row. -/
namespace PL
open PySem PySem.Spec PyProof.Rows L2
variable [TabList]
/-- a def that holds lambdas: its code object is known -/
structure FnC (K : PySem.W.Frag) (mg : Str → Option Value) (x qual : Str) (st : Stmt) (ps : List Str) extends FnAt K mg x qual st ps where
  c : Addr
  ex : ∃ (oc : Value) (od : Option Addr) (kV doc pm : Value) (an : Option Addr) (ct : Value) (osl : Array (Option Value)),
    fd = PySem.W.fnOf x qual (defArgs st) (defBody st) (defScope st) .none kV doc pm an (.ref c) ct ∧ K.lookup f = some ⟨oc, od, .func fd, osl⟩ ∧ PySem.W.codeIn K (.ref c) qual = true
section
variable {P : Program} {w0 : World} {K : PySem.W.Frag} {mg : Str → Option Value} {base : Heap} {x qual : Str} {st : Stmt} {N ps : List Str} {k : Nat} {spec : SPEC} {w : WS}
theorem fnC (A : FnC K mg x qual st ps) (S : FnScope N ps (defScope st)) (len : ∀ xs Q E, spec xs Q E → xs.length = ps.length)
    (hbody : ∀ (Ar : Around) (outer : List Env) (s : Shared) (H : Hp) (E : XK), Room k (Ar.deeper (envOfC qual (defScope st) s.heap.objs.size A.f (.ref A.c))) → DSs (cxOf (L2.CX P w0) P w0 K mg base N qual (defScope st) A.f (.ref A.c) Ar outer s H E) (fun cls d _ H => E cls d H) (defBody st) w)
    (pure : ∀ xs Q E, spec xs Q E → w ⟨fun _ => Q .non, fun d _ => Q d, fun _ => False, fun _ => False, E⟩ (startP N xs)) : FnSp P w0 K mg base A.toFnAt (k + 1) spec := by
  obtain ⟨oc, od, kV, doc, pm, an, ct, osl, e, lk, hcd⟩ := A.ex
  have key : ∀ fd, A.fd = fd → fd = PySem.W.fnOf x qual (defArgs st) (defBody st) (defScope st) .none kV doc pm an (.ref A.c) ct → FnOk P w0 K mg base (L2.CX P w0) (k + 1) A.f fd ps (toSp K spec) := by
    intro fd e1 e2
    rw [e1, e2] at lk
    rw [e2]
    refine fn_of lk hcd S (fun vs H Q E ⟨g, xs, Q0, E0, ok, hav, r, h, hq, he⟩ => by rw [← r.length]; exact len _ _ _ h) (fun A' outer s H vs Q E hr ⟨g, xs, Q0, E0, ok, hav, r, h, hq, he⟩ => ⟨_, (hbody A' outer s H E hr).ps, ?_⟩)
    refine ⟨g, ⟨H, g.ch⟩, startP N xs, _, rel_start ok hav r, pure xs Q0 E0 h, ⟨fun ρ σ H' q R => ?_, fun x ρ σ v H' q R rp => ?_, fun _ _ _ z => z.elim, fun _ _ _ z => z.elim, fun er cls d ρ σ H' q R ei => ?_⟩⟩
    · exact hq .non .non H' q R.ext R.ok .non
    · exact hq x v H' q R.ext R.ok (rp.less fun _ _ z => .inl z)
    · exact he er cls d H' q R.ext R.ok (ei.less fun _ _ z => .inl z)
  exact key A.fd rfl e
end
section
variable {X : Cx} {W : WX} {m : Bool}
theorem de_wordF {x a lt ret : Str} {st : Stmt} {g c P C : Addr} {fd : FuncData} {k : Nat} {Ng : List Str} {we : WE} {params : Arguments} {body : Expr} {scope : Scope} {p lpos pos : Pos} (F : Fun X.K x x st g fd) (hb : L2.Binds X.K fd [a] []) (hm : X.mg x = some (.ref g)) (hk : PySem.W.keepIn X.K (.ref g) = true)
    (Sg : FnScope Ng [a] (defScope st)) (hNg : Ng[0]? = some a) (hva : Vis (defScope st) a)
    (hG : ∀ cdv, LamX.GivesTo X Ng x (defScope st) g cdv (defBody st) a (X.env.qual ++ "<lambda>") (TWord C lt ret))
    (TB : LamX.TabB X.base X.mg c P) (hcode : X.env.code = .ref c) (hmT : (P, X.env.qual ++ "<lambda>") ∈ TabList.T) (hu : ∀ p ∈ TabList.T, p.1 = P → p.2 = X.env.qual ++ "<lambda>") (hr : Room (k + 2) X.A)
    (hbody : ∀ (A : Around) (outer : List Env) (s : Shared) (H : Hp) (E : XK) (f c' : Addr), Room k (A.deeper (LamX.lamEnv X scope s.heap.objs.size f c')) → DE (LamX.lamCx X A outer s H E scope f c') (fun cls d _ H => E cls d H) true body we)
    (L : LamX.LamS X.env.scope scope) (hdef : defaultsOf params X.env = ([], []) := by rfl)
    (hbind : ∀ (q : Str) (cl : List (Str × Addr)) (pm cv ctv : Value), bindArgs (PySem.W.kla_fn "<lambda>" q params body scope cl pm cv ctv) ⟨[], []⟩ = pure [] := by intro _ _ _ _ _; rfl)
    (hg : Gl X x := by rfl) (hdb : (x == ("__debug__" : Str)) = false := by decide) (hd : (a == ("__debug__" : Str)) = false := by decide) (hcd : (a == ("__classdict__" : Str)) = false := by decide) :
    DE X W m (.Call (.Name x p) [.Lambda params body scope lpos] [] pos) (wWord C lt ret we) := by
  obtain ⟨oc, od, kV, doc, pm, an, cdv, ct, osl, e, lk, hcg⟩ := F.ex
  rw [e] at hb lk
  exact de_word hm hk lk hcg hb Sg hNg hva (hG cdv) TB hcode hmT hu hr hbody L hdef hbind hg hdb hd hcd
theorem tkL {A : Around} {outer : List Env} {s : Shared} {H : Hp} {E : XK} {scope : Scope} {f c' : Addr} : Takes (LamX.lamCx X A outer s H E scope f c') (fun cls d _ H => E cls d H) := takes_of rfl rfl rfl rfl
end
/-! ### facts of classes -/
theorem kit_own {K : PySem.W.Frag} {D A : Addr} {b : Bool} (ne : (Value.ref D == Value.ref A) = false) (h1 : PySem.W.subIn K (.ref D) (.ref A) = some b) (ht : PySem.W.typeIn K (.ref A) = some (.type "type")) (hd : PySem.W.hasDictIn K A = true) : PySem.W.kitOne K (.ref D) (.ref A) = some b := by
  unfold PySem.W.kitOne PySem.W.kitCls
  rw [ne, if_neg Bool.false_ne_true]
  have e2 : ((PySem.W.clsIn K A).isSome && PySem.W.typeIn K (.ref A) == some (.type "type")) = true := by
    obtain ⟨cd, hc, _⟩ := PySem.W.any_some hd
    rw [hc, ht] <;> rfl
  simp only [e2, if_true]
  exact h1
theorem kit_self {K : PySem.W.Frag} {D : Addr} : PySem.W.kitOne K (.ref D) (.ref D) = some true := by
  unfold PySem.W.kitOne
  rw [if_pos (beq_self_eq_true _)]
theorem kit_VE {K : PySem.W.Frag} {D : Addr} {b : Bool} (h1 : PySem.W.subIn K (.ref D) (.type "ValueError") = some b) : PySem.W.kitOne K (.ref D) (.type "ValueError") = some b := by
  unfold PySem.W.kitOne PySem.W.kitCls
  rw [if_neg (by intro z; cases z)]
  have e : PySem.W.kitMeta "ValueError" = true := by decide +kernel
  simp only [e, if_true]
  exact h1
theorem bt_ValueError : bootBuiltins "ValueError" = some (.type "ValueError") := by first | rfl | decide +kernel
/-! ### the end -/
/-- what the law must be, at a script of at most 63 numbers -/
def sp_law : SPEC := fun xs Q _ => ∃ ns : List Int, xs = [.lst (ns.map .int)] ∧ ns.length ≤ 63 ∧ Q (.bl true)
end PL
namespace PL
open PySem PySem.Spec PyProof.Rows L2
/-- as toSp, the script a list of the written part or tracked -/
def spRow (K : PySem.W.Frag) (T : List (Addr × Str)) : Sp := fun vs H Q _ => ∃ (a : Addr) (ns : List Int), vs = [.ref a] ∧ ns.length ≤ 63 ∧ SqL K H a (ns.map V.int) ∧ LamX.Tabs T H ∧ ∀ H', Q (.bl true) H'
end PL
end
section
set_option Elab.async false
set_option linter.all false
set_option maxRecDepth 100000
set_option maxHeartbeats 4000000
namespace K66
open PySem PySem.Spec PyProof.Rows L2 PL
variable [PL.TabList]
def top (i : Nat) : Stmt := PySem.Challenge.pw_dotmaps_k66_whole_gaps_of_three_lengths.main.body.getD i (.Pass ⟨0, 0, 0, 0⟩)
abbrev st_is_integer : Stmt := top 9
theorem S_is_integer : FnScope ["thing"] ["thing"] (defScope st_is_integer) := ⟨rfl, rfl, rfl, by decide +kernel, rfl, by decide +kernel, by decide +kernel⟩
abbrev At_is_integer (K : PySem.W.Frag) (mg : Str → Option Value) := FnAt K mg "is_integer" "is_integer" st_is_integer ["thing"]
abbrev st_is_between : Stmt := top 10
theorem S_is_between : FnScope ["thing", "low", "high"] ["thing", "low", "high"] (defScope st_is_between) := ⟨rfl, rfl, rfl, by decide +kernel, rfl, by decide +kernel, by decide +kernel⟩
abbrev At_is_between (K : PySem.W.Frag) (mg : Str → Option Value) := FnAt K mg "is_between" "is_between" st_is_between ["thing", "low", "high"]
abbrev st_common_divisor : Stmt := top 11
theorem S_common_divisor : FnScope ["one", "other"] ["one", "other"] (defScope st_common_divisor) := ⟨rfl, rfl, rfl, by decide +kernel, rfl, by decide +kernel, by decide +kernel⟩
abbrev At_common_divisor (K : PySem.W.Frag) (mg : Str → Option Value) := FnAt K mg "common_divisor" "common_divisor" st_common_divisor ["one", "other"]
abbrev st_counted : Stmt := top 14
theorem S_counted : FnScope ["some", "found", "one"] ["some"] (defScope st_counted) := ⟨rfl, rfl, rfl, by decide +kernel, rfl, by decide +kernel, by decide +kernel⟩
abbrev At_counted (K : PySem.W.Frag) (mg : Str → Option Value) := FnAt K mg "counted" "counted" st_counted ["some"]
abbrev st__law_draw : Stmt := top 19
theorem S__law_draw : FnScope ["hand", "span", "number", "cell", "digit"] ["hand", "span"] (defScope st__law_draw) := ⟨rfl, rfl, rfl, by decide +kernel, rfl, by decide +kernel, by decide +kernel⟩
abbrev At__law_draw (K : PySem.W.Frag) (mg : Str → Option Value) := FnAt K mg "_law_draw" "_law_draw" st__law_draw ["hand", "span"]
abbrev st_check_turn : Stmt := top 15
theorem S_check_turn : FnScope ["size", "step"] ["size", "step"] (defScope st_check_turn) := ⟨rfl, rfl, rfl, by decide +kernel, rfl, by decide +kernel, by decide +kernel⟩
abbrev At_check_turn (K : PySem.W.Frag) (mg : Str → Option Value) := FnAt K mg "check_turn" "check_turn" st_check_turn ["size", "step"]
abbrev st_turn_gaps : Stmt := top 16
theorem S_turn_gaps : FnScope ["size", "step", "many", "dots", "turn", "dot", "later"] ["size", "step", "many"] (defScope st_turn_gaps) := ⟨rfl, rfl, rfl, by decide +kernel, rfl, by decide +kernel, by decide +kernel⟩
abbrev At_turn_gaps (K : PySem.W.Frag) (mg : Str → Option Value) := FnAt K mg "turn_gaps" "turn_gaps" st_turn_gaps ["size", "step", "many"]
abbrev st_turn_backs : Stmt := top 17
theorem S_turn_backs : FnScope ["size", "step", "length", "found", "dot", "here", "steps"] ["size", "step", "length"] (defScope st_turn_backs) := ⟨rfl, rfl, rfl, by decide +kernel, rfl, by decide +kernel, by decide +kernel⟩
abbrev At_turn_backs (K : PySem.W.Frag) (mg : Str → Option Value) := FnAt K mg "turn_backs" "turn_backs" st_turn_backs ["size", "step", "length"]
structure Txt (K : PySem.W.Frag) (mg : Str → Option Value) where
  z_abs : mg "abs" = none
  z_all : mg "all" = none
  z_bool : mg "bool" = none
  z_dict : mg "dict" = none
  z_int : mg "int" = none
  z_isinstance : mg "isinstance" = none
  z_len : mg "len" = none
  z_list : mg "list" = none
  z_min : mg "min" = none
  z_range : mg "range" = none
  z_sorted : mg "sorted" = none
  z_str : mg "str" = none
  z_sum : mg "sum" = none
  z_tuple : mg "tuple" = none
  z_zip : mg "zip" = none
  a_BadExchange : Addr
  c_BadExchange : mg "BadExchange" = some (.ref a_BadExchange)
  u_MOST_SIZE : Value
  g_MOST_SIZE : mg "MOST_SIZE" = some u_MOST_SIZE
  v_MOST_SIZE : RelV (.int 1000) u_MOST_SIZE
  a_NoDot : Addr
  c_NoDot : mg "NoDot" = some (.ref a_NoDot)
  a_NoExchange : Addr
  c_NoExchange : mg "NoExchange" = some (.ref a_NoExchange)
  a_NoNumber : Addr
  c_NoNumber : mg "NoNumber" = some (.ref a_NoNumber)
  e_NoNumber : ErrC K a_NoNumber
  a_NoSigns : Addr
  c_NoSigns : mg "NoSigns" = some (.ref a_NoSigns)
  a_NoSpan : Addr
  c_NoSpan : mg "NoSpan" = some (.ref a_NoSpan)
  a_RingError : Addr
  c_RingError : mg "RingError" = some (.ref a_RingError)
def isI : D → Bool
  | .int _ => true
  | _ => false
def sp_is_integer : SPEC := fun xs Q _ => ∃ x n, xs = [x] ∧ tyD x = some n ∧ Q (.bl (isI x))
def btw (x : D) (lo hi : Int) : Bool := match x with
  | .int i => decide (lo ≤ i) && decide (i ≤ hi)
  | _ => false
def sp_is_between : SPEC := fun xs Q _ => ∃ x n lo hi, xs = [x, .int lo, .int hi] ∧ tyD x = some n ∧ Q (.bl (btw x lo hi))
def sp_common_divisor : SPEC := fun xs Q _ => ∃ a b : Nat, xs = [.int a, .int b] ∧ Q (.int (Nat.gcd a b))
def sp_counted : SPEC := fun xs Q _ => ∃ ns : List Int, xs = [.lst (ns.map .int)] ∧ ns.length ≤ 10000 ∧ Q (.tup ((tl ns).map PL.pairD))
def turnS (x y : D) : Bool := match x with
  | .int n => btw y 0 (n - 1)
  | _ => false
def turnOk (x y : D) : Bool := btw x 1 1000 && turnS x y
def sp_check_turn (C : Addr) : SPEC := fun xs Q E => ∃ x y n m, xs = [x, y] ∧ tyD x = some n ∧ tyD y = some m ∧ (turnOk x y = true → Q .non) ∧ (turnOk x y = false → E ⟨C, []⟩)
/-- where the dots are, ascending -/
def dotsI (n s m : Nat) : List Int := srt ((List.range m).map fun (t : Nat) => (s : Int) * (t : Int) % (n : Int))
/-- how far it is to the next -/
def gapsI (n : Nat) (ds : List Int) : List Int := (ds.zip (ds.drop 1 ++ [ds.headD 0 + (n : Int)])).map fun p => p.2 - p.1
def sp_turn_gaps (C : Addr) : SPEC := fun xs Q E => ∃ x y z n m k, xs = [x, y, z] ∧ tyD x = some n ∧ tyD y = some m ∧ tyD z = some k ∧
  (turnOk x y = false → E ⟨C, []⟩) ∧ (∀ n s : Nat, 1 ≤ n → n ≤ 1000 → s < n → x = .int n → y = .int s → (btw z 1 (n / Nat.gcd n s : Nat) = false → E ⟨C, []⟩) ∧ (∀ m : Nat, 1 ≤ m → m ≤ n → z = .int m → m ≤ n / Nat.gcd n s → Q (.tup ((tl (gapsI n (dotsI n s m))).map PL.pairD))))
theorem turnOk_of {x y : D} (h : turnOk x y = true) : ∃ n s : Nat, x = .int n ∧ y = .int s ∧ 1 ≤ n ∧ n ≤ 1000 ∧ s < n := by
  unfold turnOk at h
  rw [Bool.and_eq_true] at h
  obtain ⟨h1, h2⟩ := h
  cases x <;> first | (cases h1; done) | skip
  rename_i i
  cases y <;> first | (cases h2; done) | skip
  rename_i j
  have h1 : (decide ((1 : Int) ≤ i) && decide (i ≤ 1000)) = true := h1
  have h2 : (decide ((0 : Int) ≤ j) && decide (j ≤ i - 1)) = true := h2
  simp only [Bool.and_eq_true, decide_eq_true_eq] at h1 h2
  exact ⟨i.toNat, j.toNat, by rw [Int.toNat_of_nonneg (by omega)], by rw [Int.toNat_of_nonneg (by omega)], by omega, by omega, by omega⟩
theorem btw_of {z : D} {lo hi : Nat} (h : btw z lo hi = true) : ∃ m : Nat, z = .int m ∧ lo ≤ m ∧ m ≤ hi := by
  cases z <;> first | (cases h; done) | skip
  rename_i i
  have h1 : (decide ((lo : Int) ≤ i) && decide (i ≤ hi)) = true := h
  simp only [Bool.and_eq_true, decide_eq_true_eq] at h1
  exact ⟨i.toNat, by rw [Int.toNat_of_nonneg (by omega)], by omega, by omega⟩
/-- r: the first number of steps behind which d is below L again -/
def IsRet (n s L d r : Nat) : Prop := 1 ≤ r ∧ (d + r * s) % n < L ∧ ∀ k, 1 ≤ k → k < r → L ≤ (d + k * s) % n
theorem ret_uniq {n s L d r r' : Nat} (h : IsRet n s L d r) (h' : IsRet n s L d r') : r = r' := by
  rcases Nat.lt_trichotomy r r' with q | q | q
  · have := h'.2.2 r h.1 q
    have := h.2.1
    omega
  · exact q
  · have := h.2.2 r' h'.1 q
    have := h'.2.1
    omega
noncomputable def ret (n s L d : Nat) : Nat := Classical.epsilon (IsRet n s L d)
theorem ret_eq {n s L d r : Nat} (h : IsRet n s L d r) : ret n s L d = r := ret_uniq (Classical.epsilon_spec ⟨r, h⟩) h
noncomputable def backsI (n s L : Nat) : List Int := (List.range L).map fun d => (ret n s L d : Int)
def sp_turn_backs (C : Addr) : SPEC := fun xs Q E => ∃ x y z n m k, xs = [x, y, z] ∧ tyD x = some n ∧ tyD y = some m ∧ tyD z = some k ∧
  (turnOk x y = false → E ⟨C, []⟩) ∧ (∀ n s : Nat, 1 ≤ n → n ≤ 1000 → s < n → x = .int n → y = .int s → (btw z 1 n = false → E ⟨C, []⟩) ∧ (∀ L : Nat, 1 ≤ L → L ≤ n → z = .int L → Q (.tup ((tl (backsI n s L)).map PL.pairD))))
/-- the numbers in the law's own way -/
theorem dots_gaps {ds : List Int} {n : Nat} {z : Int} (h : ds[0]? = some z) : (ds.zip (ds.drop 1 ++ [z + (n : Int)])).map (fun p => D.int (p.2 - p.1)) = (gapsI n ds).map D.int := by
  unfold gapsI
  rw [List.map_map]
  have e : ds.headD 0 = z := by
    cases ds with
    | nil => cases h
    | cons a ds => simpa using h
  rw [e]
  rfl
theorem gapsI_length {ds : List Int} {n : Nat} (h : 1 ≤ ds.length) : (gapsI n ds).length = ds.length := by
  unfold gapsI
  simp
  omega
theorem dotsI_length {n s m : Nat} : (dotsI n s m).length = m := by
  unfold dotsI
  rw [srt_length]
  simp
theorem mod_step {a s n : Nat} (k : Nat) : ((a + k * s) % n + s) % n = (a + (k + 1) * s) % n := by
  rw [Nat.mod_add_mod, Nat.add_assoc, Nat.succ_mul]
theorem ret_top {n s L d : Nat} (h : d < L) (hn : L ≤ n) : (d + n * s) % n < L := by
  rw [Nat.add_mul_mod_self_left, Nat.mod_eq_of_lt (by omega)]
  exact h
section
variable {P : Program} {w : World} {K : PySem.W.Frag} {mg : Str → Option Value} {base : Heap}
theorem ok_is_integer (T : Txt K mg) (A : At_is_integer K mg) : FnSp P w K mg base A 1 sp_is_integer := by
  refine fnS A S_is_integer (fun xs Q E h => ?_) (fun cdv Ar outer s H E hr => (dss_one (ds_ret (de_and (m' := false) (de_isi (m1 := false) (da_cons (de_var 0) (da_cons (de_bty T.z_int bt_int) da_nil)) T.z_isinstance bt_isinstance) (de_one (de_not (m' := false) (de_isi (m1 := false) (da_cons (de_var 0) (da_cons (de_bty T.z_bool bt_bool) da_nil)) T.z_isinstance bt_isinstance))))))) (fun xs Q E h => ?_)
  · obtain ⟨x, n, rfl, _⟩ := h
    rfl
  · obtain ⟨x, n, rfl, hn, hq⟩ := h
    refine ⟨n, hn, by decide, ?_⟩
    cases x <;> first | (cases hn; done) | skip
    all_goals cases hn
    all_goals first | exact ⟨_, rfl, by decide, hq⟩ | exact hq
theorem ok_is_between (T : Txt K mg) (A : At_is_between K mg) {A1 : At_is_integer K mg} (F_is_integer : FnSp P w K mg base A1 1 sp_is_integer) : FnSp P w K mg base A 2 sp_is_between := by
  refine fnS A S_is_between (fun xs Q E h => ?_) (fun cdv Ar outer s H E hr => (dss_one (ds_ret (de_and (m' := false) (de_fn F_is_integer (hr.mono (by decide)) tkX (da_cons (de_var 0) da_nil)) (de_one (de_lele (de_var 1) (de_var 0) (de_var 2))))))) (fun xs Q E h => ?_)
  · obtain ⟨x, n, lo, hi, rfl, _⟩ := h
    rfl
  · obtain ⟨x, n, lo, hi, rfl, hn, hq⟩ := h
    refine ⟨x, n, rfl, hn, ?_⟩
    cases x <;> first | exact hq | skip
    rename_i i
    exact chain_of (.int lo) (.int i) (.int hi) (decide (lo ≤ i)) (decide (i ≤ hi)) (fun Q E q => q) (fun Q E q => q) (fun Q E q => q) (fun Q q => q) (fun _ Q q => q) hq
theorem ok_common_divisor (T : Txt K mg) (A : At_common_divisor K mg) : FnSp P w K mg base A 1 sp_common_divisor := by
  refine fnS A S_common_divisor (fun xs Q E h => ?_) (fun cdv Ar outer s H E hr => (dss_cons (ds_par 0 1 (de_abs (m1 := false) (da_cons (de_var 0) da_nil) T.z_abs bt_abs) (de_abs (m1 := false) (da_cons (de_var 1) da_nil) T.z_abs bt_abs) S_common_divisor.nd)
    (dss_cons (ds_while hpX (dt_gt (de_var 1) de_int) (dss_one (ds_par 0 1 (de_var 1) (de_mod (de_var 0) (de_var 1)) S_common_divisor.nd)))
    (dss_one (ds_ret (de_var 0)))))) (fun xs Q E h => ?_)
  · obtain ⟨x, n, rfl, _⟩ := h
    rfl
  · obtain ⟨a, b, rfl, hq⟩ := h
    refine while_of (fun n ρ => ∃ x y : Nat, ρ = [some (.d (.int x)), some (.d (.int y))] ∧ Nat.gcd x y = Nat.gcd a b ∧ y = n) b ⟨a, b, ?_, rfl, rfl⟩ ?_
    · show [some (S.d (.int (if (a : Int) < 0 then -(a : Int) else a))), some (S.d (.int (if (b : Int) < 0 then -(b : Int) else b)))] = _
      rw [if_neg (by omega), if_neg (by omega)]
    · rintro n ρ ⟨x, y, rfl, hg, rfl⟩
      refine ⟨decide ((0 : Int) < (y : Int)), fun Q E q => q, fun h => ?_, fun h => ?_⟩
      · have h := of_decide_eq_true h
        refine ⟨h, _, Nat.mod_lt x (by omega), y, x % y, ?_, ?_, rfl⟩
        · show [some (S.d (.int (y : Int))), some (S.d (.int ((x : Int) % (y : Int))))] = _
          rw [Int.natCast_emod]
        · rw [← hg, Nat.gcd_comm x y, Nat.gcd_rec y x, Nat.gcd_comm]
      · have h := of_decide_eq_false h
        have y0 : y = 0 := by omega
        subst y0
        show Q (.int (x : Int))
        rw [Nat.gcd_zero_right] at hg
        rw [hg]
        exact hq
theorem ok_counted (T : Txt K mg) (A : At_counted K mg) : FnSp P w K mg base A 1 sp_counted := by
  refine fnS A S_counted (fun xs Q E h => ?_) (fun cdv Ar outer s H E hr => (dss_cons (ds_own 1 S_counted.nd df_dict0)
    (dss_cons (ds_for hpX (di_seq (de_var 0)) (dg_name 2 S_counted.nd) (dss_one (ds_put (m := false) 1 hr (de_add (de_get2 (m1 := false) (m2 := false) hr (dt_own 1) (de_var 2) de_int) de_int) (de_var 2))))
    (dss_one (ds_ret (de_tuple (m1 := false) (da_cons (df_sortIt (m1 := false) (dt_own 1) T.z_sorted bt_sorted).d da_nil) T.z_tuple bt_tuple)))))) (fun xs Q E h => ?_)
  · obtain ⟨x, rfl, _⟩ := h
    rfl
  · obtain ⟨ns, rfl, hl, hq⟩ := h
    refine for_of (ns.map D.int) (fun done ρ => ∃ (dn ks : List Int) (v : Option S), done = dn.map D.int ∧ ρ = [some (.d (.lst (ns.map .int))), some (.own (.dK (kvF (fun k => .int (dn.count k : Int)) ks))), v] ∧ ks.Nodup ∧ (∀ x, x ∈ ks ↔ x ∈ dn) ∧ ks.length ≤ dn.length)
      ⟨[], [], _, rfl, rfl, List.nodup_nil, fun _ => Iff.rfl, Nat.le_refl _⟩ ?_ ?_
    · rintro done x rest ρ e ⟨dn, ks, v, rfl, rfl, hn, hm, hk⟩ N hN
      obtain ⟨y, rfl⟩ : ∃ y : Int, x = .int y := by
        have q : x ∈ ns.map D.int := by rw [e]; simp
        obtain ⟨y, _, rfl⟩ := List.mem_map.mp q
        exact ⟨y, rfl⟩
      have hd : dn.length < 10000 := by
        have q := congrArg List.length e
        simp at q
        omega
      refine ⟨_, rfl, put_of (.int ((dn.count y : Int) + 1)) (.inl y) _ (fun Q E q => ?_) (fun Q E q => q) rfl ?_ ?_⟩
      · show fAdd ((valG (kvF (fun k => D.int (dn.count k : Int)) ks) (.inl y)).getD (.int 0)) (.int 1) Q
        rw [valG_kvF]
        by_cases h : y ∈ ks
        · rw [if_pos h]; exact q
        · rw [if_neg h]
          rw [List.count_eq_zero.mpr fun z => h ((hm y).mpr z)] at q
          exact q
      · rw [kvF_length]
        show ks.length < 1000000
        omega
      · refine hN _ ⟨dn ++ [y], addK ks y, some (.d (.int y)), by simp, ?_, nodup_addK hn, fun z => ?_, ?_⟩
        · have e3 : putG (kvF (fun k => D.int (dn.count k : Int)) ks) (.inl y) (.int ((dn.count y : Int) + 1)) = kvF (fun k => D.int ((dn ++ [y]).count k : Int)) (addK ks y) := by
            rw [putG_kvF]
            refine kvF_congr fun k hk => ?_
            unfold updF
            by_cases h : k = y
            · subst h; simp
            · rw [if_neg h]
              have : ¬ y = k := fun z => h z.symm
              simp [List.count_append, List.count_singleton, this]
          rw [← e3]
          rfl
        · rw [mem_addK, hm, List.mem_append, List.mem_singleton]
        · rw [List.length_append]
          exact Nat.le_trans addK_length (by simp; omega)
    · rintro ρ ⟨dn, ks, v, e, rfl, hn, hm, hk⟩
      have e2 : dn = ns := by
        have inj : Function.Injective D.int := fun a b h => by cases h; rfl
        exact ((List.map_inj_right (fun a b h => inj h)).mp e).symm
      subst e2
      refine ⟨ks.map fun k => (k, (dn.count k : Int)), ?_, fun ps h1 h2 => ?_⟩
      · unfold kvF
        rw [List.map_map]
        rfl
      · rw [tl_uniq hn hm h1 h2]
        exact hq
theorem ok_check_turn (T : Txt K mg) (A : At_check_turn K mg) {A1 : At_is_between K mg} (F_is_between : FnSp P w K mg base A1 2 sp_is_between) : FnSp P w K mg base A 3 (sp_check_turn T.a_NoNumber) := by
  refine fnS A S_check_turn (fun xs Q E h => ?_) (fun cdv Ar outer s H E hr => (dss_one (ds_if (dw_or (dt_not (dt_b (m := false) (de_fn F_is_between (hr.mono (by decide)) tkX (da_cons (de_var 0) (da_cons de_int (da_cons (de_globI T.g_MOST_SIZE T.v_MOST_SIZE) da_nil)))))) (dw_or1 (dt_not (dt_b (m := false) (de_fn F_is_between (hr.mono (by decide)) tkX (da_cons (de_var 1) (da_cons de_int (da_cons (de_sub (de_var 0) de_int) da_nil)))))))).t (dss_one (ds_raise0 tkX T.e_NoNumber T.c_NoNumber)) dss_nil))) (fun xs Q E h => ?_)
  · obtain ⟨x, y, n, m, rfl, _⟩ := h
    rfl
  · obtain ⟨x, y, n, m, rfl, hx, hy, h1, h2⟩ := h
    refine if_of (!turnOk x y) (fun Q E q => ?_) (fun h => ?_) (fun h => ?_)
    · refine tor_of (!btw x 1 1000) (!turnS x y) (fun Q E q => ⟨x, n, _, _, rfl, hx, q⟩) (fun h Q E q => ?_) ?_
      · cases x <;> first | (cases h; done) | skip
        exact ⟨y, m, _, _, rfl, hy, q⟩
      · unfold turnOk at q
        rw [Bool.not_and] at q
        exact q
    · exact h2 (nt h)
    · exact h1 (nf h)
theorem ok_turn_gaps (T : Txt K mg) (A : At_turn_gaps K mg) {A1 : At_is_between K mg} (F_is_between : FnSp P w K mg base A1 2 sp_is_between) {A2 : At_check_turn K mg} (F_check_turn : FnSp P w K mg base A2 3 (sp_check_turn T.a_NoNumber))
    {A3 : At_common_divisor K mg} (F_common_divisor : FnSp P w K mg base A3 1 sp_common_divisor) {A4 : At_counted K mg} (F_counted : FnSp P w K mg base A4 1 sp_counted) : FnSp P w K mg base A 4 (sp_turn_gaps T.a_NoNumber) := by
  refine fnS A S_turn_gaps (fun xs Q E h => ?_) (fun cdv Ar outer s H E hr => (dss_cons (ds_expr (m := false) (de_fn F_check_turn (hr.mono (by decide)) tkX (da_cons (de_var 0) (da_cons (de_var 1) da_nil))))
    (dss_cons (ds_if (dt_not (dt_b (m := false) (de_fn F_is_between (hr.mono (by decide)) tkX (da_cons (de_var 2) (da_cons de_int (da_cons (de_div (de_var 0) (de_fn F_common_divisor (hr.mono (by decide)) tkX (da_cons (de_var 0) (da_cons (de_var 1) da_nil)))) da_nil)))))) (dss_one (ds_raise0 tkX T.e_NoNumber T.c_NoNumber)) dss_nil)
    (dss_cons (ds_set 3 S_turn_gaps.nd (df_sorted (m1 := false) (da_cons (df_lc S_turn_gaps.nd (di_range1 (m := false) T.z_range (da_cons (de_var 2) da_nil)) (own := [("turn", 4)]) (blkOk_by (N := ["size", "step", "many", "dots", "turn", "dot", "later"]) (sc := defScope st_turn_gaps) (by decide +kernel)) (fun _ _ _ _ _ => (dg_name 4 S_turn_gaps.nd)) (by decide) (fun _ _ _ _ _ => dts_nil) (fun _ _ _ _ _ => (de_mod (de_mul (de_var 1) (de_var 4)) (de_var 0)))).d da_nil) T.z_sorted bt_sorted).d)
    (dss_one (ds_ret (de_fn F_counted (hr.mono (by decide)) tkX (da_cons (df_lc S_turn_gaps.nd (di_zip T.z_zip (da_cons (de_var 3) (da_cons (df_cat (m1 := false) (m2 := false) (df_cutL (m1 := false) (de_var 3) (do_some (m1 := false) de_int) do_none).d (df_lst (da_cons (de_add (de_at (m1 := false) (m2 := false) (de_var 3) de_int) (de_var 0)) da_nil)).d).d da_nil))) (own := [("dot", 5), ("later", 6)]) (blkOk_by (N := ["size", "step", "many", "dots", "turn", "dot", "later"]) (sc := defScope st_turn_gaps) (by decide +kernel)) (fun _ _ _ _ _ => (dg_tupK K 2 (dgs_cons (dg_name 5 S_turn_gaps.nd) (dgs_cons (dg_name 6 S_turn_gaps.nd) dgs_nil)))) (by decide) (fun _ _ _ _ _ => dts_nil) (fun _ _ _ _ _ => (de_sub (de_var 6) (de_var 5)))).d da_nil)))))))) (fun xs Q E h => ?_)
  · obtain ⟨x, y, z, n, m, k, rfl, _⟩ := h
    rfl
  · obtain ⟨x, y, z, n, m, k, rfl, hx, hy, hz, h1, h2⟩ := h
    refine ⟨x, y, n, m, rfl, hx, hy, fun h => ?_, fun h => h1 h⟩
    obtain ⟨n, s, rfl, rfl, n1, n2, n3⟩ := turnOk_of h
    obtain ⟨h3, h4⟩ := h2 n s n1 n2 n3 rfl rfl
    have gpos : 0 < Nat.gcd n s := Nat.gcd_pos_of_pos_left _ n1
    have gle : Nat.gcd n s ≤ n := Nat.gcd_le_left _ n1
    dsimp only
    refine seq_of (if_of (!btw z 1 (n / Nat.gcd n s : Nat)) (fun Q E q => ?_) (fun h => ?_) (fun h => ?_))
    · refine ⟨n, s, rfl, ⟨by omega, by omega⟩, z, k, 1, (n / Nat.gcd n s : Nat), ?_, hz, q⟩
      rw [Int.natCast_ediv]
    · exact h3 (nt h)
    · obtain ⟨m, rfl, m1, m2⟩ := btw_of (lo := 1) (nf h)
      have mn : m ≤ n := Nat.le_trans m2 (Nat.div_le_self _ _)
      refine ⟨rfl, by omega, by omega, ?_⟩
      rw [rng_nat]
      refine lc_map (fun (i : Nat) => D.int (i : Int)) (fun (i : Nat) => D.int ((s : Int) * (i : Int) % (n : Int))) _ (fun i hi => ⟨_, rfl, fun Q E q => ?_⟩) (by rw [List.length_range]; show m ≤ 1000000; omega) ?_
      · have := List.mem_range.mp hi
        exact ⟨.inl ⟨by omega, by omega⟩, by omega, q⟩
      refine ⟨(List.range m).map fun (t : Nat) => (s : Int) * (t : Int) % (n : Int), by rw [List.map_map]; rfl, fun ns' p1 p2 => ?_⟩
      have e : ns' = dotsI n s m := srt_uniq p1 p2
      have hlen : ns'.length = m := by rw [e, dotsI_length]
      have hd : ns'[0]? = some (ns'.headD 0) := by
        cases ns' with
        | nil => rw [List.length_nil] at hlen; omega
        | cons a l => rfl
      refine ⟨rfl, ?_⟩
      refine ixL_of (z := .int (ns'.headD 0)) (atI_of (i := 0) (by rw [List.getElem?_map, hd]; rfl)) ?_
      refine ⟨by show 1 ≤ 1000000; omega, ?_⟩
      have ecut : cutD (ns'.map D.int) (some 1) none = (ns'.drop 1).map D.int := by rw [cut1, List.map_drop]
      refine ⟨?_, ?_⟩
      · show (cutD (ns'.map D.int) (some 1) none).length + 1 ≤ 1000000
        rw [ecut, List.length_map, List.length_drop]
        omega
      show lcL _ _ _ _ (zipD (ns'.map D.int) (cutD (ns'.map D.int) (some 1) none ++ [D.int (ns'.headD 0 + (n : Int))])) _ _
      have ez : zipD (ns'.map D.int) (cutD (ns'.map D.int) (some 1) none ++ [D.int (ns'.headD 0 + (n : Int))]) = (ns'.zip (ns'.drop 1 ++ [ns'.headD 0 + (n : Int)])).map PL.pairD := by
        rw [ecut, ← zipD_ints, List.map_append]
        rfl
      rw [ez]
      refine lc_map PL.pairD (fun p => D.int (p.2 - p.1)) _ (fun p hp => ⟨_, rfl, fun Q E q => q⟩) ?_ ?_
      · rw [List.length_zip, hlen]
        show min m _ ≤ 1000000
        omega
      rw [dots_gaps hd]
      refine ⟨gapsI n ns', rfl, ?_, ?_⟩
      · rw [gapsI_length (by omega)]
        omega
      · rw [e]
        exact h4 m m1 mn rfl m2
theorem ok_turn_backs (T : Txt K mg) (A : At_turn_backs K mg) {A1 : At_is_between K mg} (F_is_between : FnSp P w K mg base A1 2 sp_is_between) {A2 : At_check_turn K mg} (F_check_turn : FnSp P w K mg base A2 3 (sp_check_turn T.a_NoNumber))
    {A4 : At_counted K mg} (F_counted : FnSp P w K mg base A4 1 sp_counted) : FnSp P w K mg base A 4 (sp_turn_backs T.a_NoNumber) := by
  refine fnS A S_turn_backs (fun xs Q E h => ?_) (fun cdv Ar outer s H E hr => (dss_cons (ds_expr (m := false) (de_fn F_check_turn (hr.mono (by decide)) tkX (da_cons (de_var 0) (da_cons (de_var 1) da_nil))))
    (dss_cons (ds_if (dt_not (dt_b (m := false) (de_fn F_is_between (hr.mono (by decide)) tkX (da_cons (de_var 2) (da_cons de_int (da_cons (de_var 0) da_nil)))))) (dss_one (ds_raise0 tkX T.e_NoNumber T.c_NoNumber)) dss_nil)
    (dss_cons (ds_own 3 S_turn_backs.nd (df_lst da_nil))
    (dss_cons (ds_for hpX (di_range1 (m := false) T.z_range (da_cons (de_var 2) da_nil)) (dg_name 4 S_turn_backs.nd) (dss_cons (ds_par 5 6 (de_mod (de_add (de_var 4) (de_var 1)) (de_var 0)) de_int S_turn_backs.nd)
    (dss_cons (ds_while hpX (dt_ge (de_var 5) (de_var 2)) (dss_one (ds_par 5 6 (de_mod (de_add (de_var 5) (de_var 1)) (de_var 0)) (de_add (de_var 6) de_int) S_turn_backs.nd)))
    (dss_one (ds_app 3 (de_var 6))))))
    (dss_one (ds_frz 3 (ds_ret (de_fn F_counted (hr.mono (by decide)) tkX (da_cons (de_var 3) da_nil)))))))))) (fun xs Q E h => ?_)
  · obtain ⟨x, y, z, n, m, k, rfl, _⟩ := h
    rfl
  · obtain ⟨x, y, z, n, m, k, rfl, hx, hy, hz, h1, h2⟩ := h
    refine ⟨x, y, n, m, rfl, hx, hy, fun h => ?_, fun h => h1 h⟩
    obtain ⟨n, s, rfl, rfl, n1, n2, n3⟩ := turnOk_of h
    obtain ⟨h3, h4⟩ := h2 n s n1 n2 n3 rfl rfl
    dsimp only
    refine seq_of (if_of (!btw z 1 n) (fun Q E q => ?_) (fun h => ?_) (fun h => ?_))
    · exact ⟨z, k, 1, n, rfl, hz, q⟩
    · exact h3 (nt h)
    · obtain ⟨L, rfl, m1, m2⟩ := btw_of (lo := 1) (nf h)
      refine ⟨by show 0 ≤ 1000000; omega, by omega, by omega, ?_⟩
      rw [rng_nat]
      refine for_of _ (fun done ρ => ∃ (i : Nat) (v4 v5 v6 : Option S), done = (List.range i).map (fun (i : Nat) => D.int (i : Int)) ∧ i ≤ L ∧
        ρ = [some (.d (.int n)), some (.d (.int s)), some (.d (.int L)), some (.own (.lst ((List.range i).map fun d => D.int (ret n s L d : Int)))), v4, v5, v6]) ⟨0, _, _, _, rfl, Nat.zero_le _, rfl⟩ ?_ ?_
      · rintro done x rest ρ e ⟨i, v4, v5, v6, rfl, hi, rfl⟩ N hN
        have hiL : i < L := by
          have q := congrArg List.length e
          simp at q
          omega
        obtain rfl : x = .int (i : Int) := by
          have q := congrArg (fun l => l[i]?) e
          simp only [List.getElem?_map] at q
          rw [List.getElem?_range hiL, List.getElem?_append_right (by simp)] at q
          simp at q
          exact q.symm
        have e1 : ((i : Int) + (s : Int)) % (n : Int) = (((i + 1 * s) % n : Nat) : Int) := by
          rw [Int.natCast_emod, Nat.one_mul]
          rfl
        refine ⟨_, rfl, seq_of (parV_of (.int (((i + 1 * s) % n : Nat) : Int)) (.int 1) (fun Q E q => ⟨by omega, by rw [← e1] at q; exact q⟩) (fun Q E q => q) ?_)⟩
        dsimp only
        refine seq_of (while_of (fun k ρ => ∃ t : Nat, 1 ≤ t ∧ t ≤ n ∧ k = n - t ∧ (∀ j, 1 ≤ j → j < t → L ≤ (i + j * s) % n) ∧
          ρ = [some (.d (.int n)), some (.d (.int s)), some (.d (.int L)), some (.own (.lst ((List.range i).map fun d => D.int (ret n s L d : Int)))), some (.d (.int (i : Int))), some (.d (.int (((i + t * s) % n : Nat) : Int))), some (.d (.int (t : Int)))]) (n - 1)
          ⟨1, Nat.le_refl _, n1, rfl, fun j a b => by omega, rfl⟩ ?_)
        rintro k ρ ⟨t, t1, t2, rfl, t3, rfl⟩
        refine ⟨decide ((L : Int) ≤ (((i + t * s) % n : Nat) : Int)), fun Q E q => q, fun h => ?_, fun h => ?_⟩
        · have h := of_decide_eq_true h
          have hL : L ≤ (i + t * s) % n := by omega
          have tn : t ≠ n := fun q => by
            have := ret_top (s := s) hiL m2
            rw [q] at hL
            omega
          refine ⟨by omega, n - (t + 1), by omega, t + 1, by omega, by omega, rfl, fun j a b => ?_, ?_⟩
          · by_cases q : j = t
            · rw [q]; exact hL
            · exact t3 j a (by omega)
          · have e2 : ((((i + t * s) % n : Nat) : Int) + (s : Int)) % (n : Int) = (((i + (t + 1) * s) % n : Nat) : Int) := by
              rw [← mod_step, Int.natCast_emod _ n]
              rfl
            rw [← e2]
            rfl
        · have h := of_decide_eq_false h
          have er : ret n s L i = t := ret_eq ⟨t1, by omega, t3⟩
          refine app_of (.int (t : Int)) _ (fun Q E q => q) rfl ?_ (hN _ ⟨i + 1, some (.d (.int (i : Int))), some (.d (.int (((i + t * s) % n : Nat) : Int))), some (.d (.int (t : Int))), ?_, by omega, ?_⟩)
          · rw [List.length_map, List.length_range]
            show i < 1000000
            omega
          · rw [List.range_succ, List.map_append]
            rfl
          · have e5 : (List.range (i + 1)).map (fun d => D.int (ret n s L d : Int)) = (List.range i).map (fun d => D.int (ret n s L d : Int)) ++ [D.int (t : Int)] := by
              rw [List.range_succ, List.map_append, ← er]
              rfl
            rw [e5]
            rfl
      · rintro ρ ⟨i, v4, v5, v6, e, hi, rfl⟩
        obtain rfl : i = L := by
          have q := congrArg List.length e
          simp at q
          exact q.symm
        refine ⟨backsI n s i, ?_, ?_, h4 i m1 m2 rfl⟩
        · unfold backsI
          rw [List.map_map]
          rfl
        · unfold backsI
          rw [List.length_map, List.length_range]
          omega
theorem ok_draw (T : Txt K mg) (A : At__law_draw K mg) : FnSp P w K mg base A 1 sp_draw := by
  refine fn_draw A S__law_draw rfl (by decide) (fun cdv Ar outer s H E hr => (dhs_cons (dh_if (dw_and (dt_eq (m1 := false) (m2 := false) hr (de_at (m1 := false) (m2 := false) (de_var 0) de_int) de_int) (dw_and1 (dt_lt (de_at (m1 := false) (m2 := false) (de_var 0) de_int) (de_len (m1 := false) (da_cons (de_at (m1 := false) (m2 := false) (de_var 0) de_int) da_nil) T.z_len bt_len)))).t (dhs_cons (dh_set 2 S__law_draw.nd (de_at (m1 := false) (m2 := false) (de_at (m1 := false) (m2 := false) (de_var 0) de_int) (de_at (m1 := false) (m2 := false) (de_var 0) de_int)))
    (dhs_cons (dh_store (de_add (de_at (m1 := false) (m2 := false) (de_var 0) de_int) de_int))
    (dhs_cons (dh_store (de_mod (de_intc (m1 := false) (da_cons (de_add (de_add (de_mul (de_at (m1 := false) (m2 := false) (de_var 0) de_int) de_int) (de_var 3)) de_int) da_nil) T.z_int bt_int) de_int))
    (dhs_one (dh_if (dt_ge (de_var 3) (de_pow de_int de_int)) (dhs_one (dh_store (de_var 3))) dhs_nil))))) dhs_nil)
    (dhs_cons (dh_if (dt_gt (de_at (m1 := false) (m2 := false) (de_var 0) de_int) de_int) (dhs_cons (dh_set 3 S__law_draw.nd (de_mod (de_intc (m1 := false) (da_cons (de_at (m1 := false) (m2 := false) (de_var 0) de_int) da_nil) T.z_int bt_int) (de_var 1)))
    (dhs_cons (dh_store (de_div (de_at (m1 := false) (m2 := false) (de_var 0) de_int) (de_var 1)))
    (dhs_one (dh_ret (de_var 4))))) dhs_nil)
    (dhs_cons (dh_store (de_add (de_at (m1 := false) (m2 := false) (de_var 0) de_int) de_int))
    (dhs_cons (dh_set 1 S__law_draw.nd (de_mod (de_intc (m1 := false) (da_cons (de_mul (de_intc (m1 := false) (da_cons (de_add (de_at (m1 := false) (m2 := false) (de_var 0) de_int) (de_mul de_int (de_at (m1 := false) (m2 := false) (de_var 0) de_int))) da_nil) T.z_int bt_int) de_int) da_nil) T.z_int bt_int) de_int))
    (dhs_cons (dh_set 1 S__law_draw.nd (de_mod (de_intc (m1 := false) (da_cons (de_mul (de_var 2) (de_add (de_div (de_var 2) de_int) de_int)) da_nil) T.z_int bt_int) de_int))
    (dhs_cons (dh_set 1 S__law_draw.nd (de_mod (de_intc (m1 := false) (da_cons (de_mul (de_var 2) (de_add (de_div (de_var 2) de_int) de_int)) da_nil) T.z_int bt_int) de_int))
    (dhs_one (dh_ret (de_mod (de_intc (m1 := false) (da_cons (de_div (de_var 2) de_int) da_nil) T.z_int bt_int) (de_var 1))))))))))) (fun ns v k p0 k1 k2 => ?_)
  obtain ⟨p, r, m, n⟩ := v
  have p0 : 0 ≤ p := p0
  refine hif_of (decide (r = 0) && decide (p < ((ns.map D.int).length : Int))) (fun Q E q => tand_of _ _ (fun Q E q => ⟨rfl, rfl, Nat.zero_le _, q⟩) (fun _ Q E q => q) q) (fun h => ?_) (fun h => ?_)
  · rw [Bool.and_eq_true, decide_eq_true_eq, decide_eq_true_eq, List.length_map] at h
    obtain ⟨i, rfl⟩ := Int.eq_ofNat_of_zero_le p0
    have hi : i < ns.length := by
      have := h.2
      omega
    have hc : (ns.map D.int)[i]? = some (.int ns[i]) := by rw [List.getElem?_map, List.getElem?_eq_getElem hi]; rfl
    refine ⟨by show _ < 4; decide, ixL_of (atI_of hc) ?_⟩
    refine ⟨_, rfl, by decide, ?_⟩
    refine ⟨cm_r (by decide) (by decide), by show (0 : Int) < _; decide, _, rfl, by decide, ?_⟩
    (try dsimp only); refine hif_of _ (fun Q E q => ⟨⟨by decide, by decide, by decide⟩, q⟩) (fun h2 => ?_) (fun h2 => ?_)
    · refine ⟨_, rfl, by decide, ?_⟩
      (try dsimp only); refine hif_of _ (fun Q E q => q) (fun h3 => ?_) (fun h3 => ?_)
      · exact ⟨by show _ < 4; decide, by omega, ⟨by omega, by omega⟩, _, rfl, by decide, Int.emod_nonneg _ (by omega), Int.emod_lt_of_pos _ (by omega), Int.add_nonneg p0 (by decide)⟩
      · refine ⟨_, rfl, by decide, ?_⟩
        refine ⟨by show _ < 4; decide, cm_l (by decide) (by decide), cm_r (by decide) (by decide), by show (0 : Int) < _; decide, ?_⟩
        refine ⟨by show _ < 4; decide, ⟨by decide, by decide⟩, cm_mod (by decide) (by decide), by show (0 : Int) < _; decide, ?_⟩
        refine ⟨by show _ < 4; decide, ⟨by decide, by decide⟩, cm_mod (by decide) (by decide), by show (0 : Int) < _; decide, ?_⟩
        exact ⟨⟨by decide, by decide⟩, by omega, Int.emod_nonneg _ (by omega), Int.emod_lt_of_pos _ (by omega), Int.add_nonneg p0 (by decide)⟩
    · (try dsimp only); refine hif_of _ (fun Q E q => q) (fun h3 => ?_) (fun h3 => ?_)
      · exact ⟨by show _ < 4; decide, by omega, ⟨by omega, by omega⟩, _, rfl, by decide, Int.emod_nonneg _ (by omega), Int.emod_lt_of_pos _ (by omega), Int.add_nonneg p0 (by decide)⟩
      · refine ⟨_, rfl, by decide, ?_⟩
        refine ⟨by show _ < 4; decide, cm_l (by decide) (by decide), cm_r (by decide) (by decide), by show (0 : Int) < _; decide, ?_⟩
        refine ⟨by show _ < 4; decide, ⟨by decide, by decide⟩, cm_mod (by decide) (by decide), by show (0 : Int) < _; decide, ?_⟩
        refine ⟨by show _ < 4; decide, ⟨by decide, by decide⟩, cm_mod (by decide) (by decide), by show (0 : Int) < _; decide, ?_⟩
        exact ⟨⟨by decide, by decide⟩, by omega, Int.emod_nonneg _ (by omega), Int.emod_lt_of_pos _ (by omega), Int.add_nonneg p0 (by decide)⟩
  · (try dsimp only); refine hif_of _ (fun Q E q => q) (fun h3 => ?_) (fun h3 => ?_)
    · exact ⟨by show _ < 4; decide, by omega, ⟨by omega, by omega⟩, _, rfl, by decide, Int.emod_nonneg _ (by omega), Int.emod_lt_of_pos _ (by omega), p0⟩
    · refine ⟨_, rfl, by decide, ?_⟩
      refine ⟨by show _ < 4; decide, cm_l (by decide) (by decide), cm_r (by decide) (by decide), by show (0 : Int) < _; decide, ?_⟩
      refine ⟨by show _ < 4; decide, ⟨by decide, by decide⟩, cm_mod (by decide) (by decide), by show (0 : Int) < _; decide, ?_⟩
      refine ⟨by show _ < 4; decide, ⟨by decide, by decide⟩, cm_mod (by decide) (by decide), by show (0 : Int) < _; decide, ?_⟩
      exact ⟨⟨by decide, by decide⟩, by omega, Int.emod_nonneg _ (by omega), Int.emod_lt_of_pos _ (by omega), p0⟩
end
end K66
end
section
set_option Elab.async false
set_option linter.all false
set_option maxRecDepth 100000
set_option maxHeartbeats 4000000
namespace K66
open PySem PySem.Spec PyProof.Rows L2 PL
variable [PL.TabList]
abbrev st__law_hand : Stmt := top 22
theorem S__law_hand : FnScope ["script", "cells", "cell"] ["script"] (defScope st__law_hand) := ⟨rfl, rfl, rfl, by decide +kernel, rfl, by decide +kernel, by decide +kernel⟩
abbrev At__law_hand (K : PySem.W.Frag) (mg : Str → Option Value) := FnAt K mg "_law_hand" "_law_hand" st__law_hand ["script"]
abbrev st__law_some : Stmt := top 20
theorem S__law_some : FnScope ["hand", "things"] ["hand", "things"] (defScope st__law_some) := ⟨rfl, rfl, rfl, by decide +kernel, rfl, by decide +kernel, by decide +kernel⟩
abbrev At__law_some (K : PySem.W.Frag) (mg : Str → Option Value) := FnAt K mg "_law_some" "_law_some" st__law_some ["hand", "things"]
abbrev st__law_is : Stmt := top 21
theorem S__law_is : FnScope ["thing", "due", "one", "other"] ["thing", "due"] (defScope st__law_is) := ⟨rfl, rfl, rfl, by decide +kernel, rfl, by decide +kernel, by decide +kernel⟩
abbrev At__law_is (K : PySem.W.Frag) (mg : Str → Option Value) := FnAt K mg "_law_is" "_law_is" st__law_is ["thing", "due"]
abbrev st__law_deep : Stmt := top 23
theorem S__law_deep : FnScope ["hand", "thing", "turn"] ["hand"] (defScope st__law_deep) := ⟨rfl, rfl, rfl, by decide +kernel, rfl, by decide +kernel, by decide +kernel⟩
abbrev At__law_deep (K : PySem.W.Frag) (mg : Str → Option Value) := FnAt K mg "_law_deep" "_law_deep" st__law_deep ["hand"]
abbrev st__law_no_number : Stmt := top 25
theorem S__law_no_number : FnScope ["hand", "least", "most", "some"] ["hand", "least", "most"] (defScope st__law_no_number) := ⟨rfl, rfl, rfl, by decide +kernel, rfl, by decide +kernel, by decide +kernel⟩
abbrev At__law_no_number (K : PySem.W.Frag) (mg : Str → Option Value) := FnAt K mg "_law_no_number" "_law_no_number" st__law_no_number ["hand", "least", "most"]
abbrev st__law_tally : Stmt := top 26
theorem S__law_tally : FnScope ["items", "one", "item"] ["items"] (defScope st__law_tally) := ⟨rfl, rfl, rfl, by decide +kernel, rfl, by decide +kernel, by decide +kernel⟩
abbrev At__law_tally (K : PySem.W.Frag) (mg : Str → Option Value) := FnAt K mg "_law_tally" "_law_tally" st__law_tally ["items"]
abbrev st__law_are_three : Stmt := top 27
theorem S__law_are_three : FnScope ["pairs", "sizes", "pair"] ["pairs"] (defScope st__law_are_three) := ⟨rfl, rfl, rfl, by decide +kernel, rfl, by decide +kernel, by decide +kernel⟩
abbrev At__law_are_three (K : PySem.W.Frag) (mg : Str → Option Value) := FnAt K mg "_law_are_three" "_law_are_three" st__law_are_three ["pairs"]
abbrev st__law_dots : Stmt := top 28
theorem S__law_dots : FnScope ["size", "step", "many", "number"] ["size", "step", "many"] (defScope st__law_dots) := ⟨rfl, rfl, rfl, by decide +kernel, rfl, by decide +kernel, by decide +kernel⟩
abbrev At__law_dots (K : PySem.W.Frag) (mg : Str → Option Value) := FnAt K mg "_law_dots" "_law_dots" st__law_dots ["size", "step", "many"]
abbrev st__law_gaps : Stmt := top 29
theorem S__law_gaps : FnScope ["size", "dots", "rows", "one", "other"] ["size", "dots"] (defScope st__law_gaps) := ⟨rfl, rfl, rfl, by decide +kernel, rfl, by decide +kernel, by decide +kernel⟩
abbrev At__law_gaps (K : PySem.W.Frag) (mg : Str → Option Value) := FnAt K mg "_law_gaps" "_law_gaps" st__law_gaps ["size", "dots"]
def sp_hand : SPEC := fun xs Q _ => ∃ ns : List Int, xs = [.scr ns] ∧ ns.length ≤ 1000 ∧ Q .hnd
def sp_some : SPEC := fun xs Q _ => ∃ ts : List D, xs = [.hnd, .lst ts] ∧ 1 ≤ ts.length ∧ ts.length ≤ 1000000 ∧ ∀ t ∈ ts, Q t
def DeepD (t : D) : Prop := ∃ x, t = .tup [x] ∨ t = .lst [x]
def sp_deep : SPEC := fun xs Q _ => xs = [.hnd] ∧ ∀ t, DeepD t → Q t
mutual
/-- plain, at most so deep -/
def isPl : Nat → D → Bool
  | _, .non => true
  | _, .bl _ => true
  | _, .int _ => true
  | _, .str _ => true
  | n + 1, .tup xs => decide (xs.length ≤ 1000000) && isPls n xs
  | n + 1, .lst xs => decide (xs.length ≤ 1000000) && isPls n xs
  | _, _ => false
def isPls : Nat → List D → Bool
  | _, [] => true
  | n, x :: xs => isPl n x && isPls n xs
end
def sp_is (n : Nat) : SPEC := fun xs Q _ => ∃ x, xs = [x, x] ∧ isPl n x = true ∧ Q (.bl true)
def sp_no_number : SPEC := fun xs Q _ => xs = [.hnd, .int 1, .int 1000] ∧ ∀ t n, tyD t = some n → btw t 1 1000 = false → Q t
def sp_tally : SPEC := fun xs Q _ => ∃ ns : List Int, xs = [.lst (ns.map .int)] ∧ ns.length ≤ 10000 ∧ Q (.tup ((tl ns).map PL.pairD))
def Three (ps : List (Int × Int)) : Prop := ps.length < 3 ∨ ∃ a b c, ps = [a, b, c] ∧ c.1 = a.1 + b.1
def sp_are_three : SPEC := fun xs Q _ => ∃ ps : List (Int × Int), xs = [.tup (ps.map PL.pairD)] ∧ ps.length ≤ 10000 ∧ Three ps ∧ Q (.bl true)
def sp_dots : SPEC := fun xs Q _ => ∃ n s m : Nat, xs = [.int n, .int s, .int m] ∧ 1 ≤ n ∧ m ≤ 10000 ∧ s < 10000 ∧ Q (.lst ((List.range m).map fun (t : Nat) => D.int ((t : Int) * (s : Int) % (n : Int))))
def sp_gaps : SPEC := fun xs Q _ => ∃ (n : Nat) (ds : List Int), xs = [.int n, .lst (ds.map .int)] ∧ 1 ≤ ds.length ∧ ds.length ≤ 10000 ∧ Q (.tup ((tl (gapsI n (srt ds))).map PL.pairD))
section
variable {P : Program} {w : World} {K : PySem.W.Frag} {mg : Str → Option Value} {base : Heap}
theorem ok_hand (T : Txt K mg) (A : At__law_hand K mg) : FnSp P w K mg base A 1 sp_hand := by
  refine fnS A S__law_hand (fun xs Q E h => ?_) (fun cdv Ar outer s H E hr => (dss_cons (ds_lc 1 S__law_hand.nd (di_seq (df_cutS (m1 := false) (de_var 0) do_none (do_some (m1 := false) de_int)).d) (own := [("cell", 2)]) (blkOk_by (N := ["script", "cells", "cell"]) (sc := defScope st__law_hand) (by decide +kernel)) (fun _ _ _ _ _ => (dg_name 2 S__law_hand.nd)) (by decide) (fun _ _ _ _ _ => dts_nil) (fun _ _ _ _ _ => (de_abs (m1 := false) (da_cons (de_intc (m1 := false) (da_cons (de_var 2) da_nil) T.z_int bt_int) da_nil) T.z_abs bt_abs)))
    (dss_one (ds_ret (de_hand (df_lst (da_cons (de_var 1) (da_cons de_int (da_cons de_int (da_cons (de_add de_int (de_mul de_int (de_len (m1 := false) (da_cons (de_var 1) da_nil) T.z_len bt_len))) (da_cons de_int da_nil))))))))))) (fun xs Q E h => ?_)
  · obtain ⟨ns, rfl, _⟩ := h
    rfl
  · obtain ⟨ns, rfl, hl, hq⟩ := h
    obtain ⟨l, e, hl2⟩ := cut_map D.int ns none (some 63)
    refine ⟨rfl, ?_⟩
    show lcL _ _ _ _ (cutD (ns.map D.int) none (some 63)) _ _
    rw [e]
    refine lc_map D.int (fun i => D.int (if i < 0 then -i else i)) l (fun i hi => ⟨_, rfl, fun Q E q => q⟩) (by show _ ≤ 1000000; omega) ?_
    refine ⟨cm_l (by decide) (by decide), by show 5 ≤ 1000000; decide, l.map fun i => if i < 0 then -i else i, (0, 0, 251 + 3 * ((l.map fun i => D.int (if i < 0 then -i else i)).length : Int), 0), ?_, Int.le_refl 0, hq⟩
    unfold hD
    rw [List.map_map]
    rfl
theorem ok_some (T : Txt K mg) (A : At__law_some K mg) {A1 : At__law_draw K mg} (F__law_draw : FnSp P w K mg base A1 1 sp_draw) : FnSp P w K mg base A 2 sp_some := by
  refine fnS A S__law_some (fun xs Q E h => ?_) (fun cdv Ar outer s H E hr => (dss_one (ds_ret (de_at (m1 := false) (m2 := false) (de_var 1) (de_fn F__law_draw (hr.mono (by decide)) tkX (da_cons (de_var 0) (da_cons (de_len (m1 := false) (da_cons (de_var 1) da_nil) T.z_len bt_len) da_nil))))))) (fun xs Q E h => ?_)
  · obtain ⟨ns, rfl, _⟩ := h
    rfl
  · obtain ⟨ts, rfl, h1, h2, hq⟩ := h
    refine ⟨_, rfl, by omega, by omega, fun i i0 i1 => ?_⟩
    obtain ⟨j, rfl⟩ := Int.eq_ofNat_of_zero_le i0
    have hj : j < ts.length := by omega
    exact ixL_of (atI_of (List.getElem?_eq_getElem hj)) (hq _ (List.getElem_mem hj))
theorem ok_deep (T : Txt K mg) (A : At__law_deep K mg) {A1 : At__law_draw K mg} (F__law_draw : FnSp P w K mg base A1 1 sp_draw) {A2 : At__law_some K mg} (F__law_some : FnSp P w K mg base A2 2 sp_some) : FnSp P w K mg base A 3 sp_deep := by
  refine fnS A S__law_deep (fun xs Q E h => ?_) (fun cdv Ar outer s H E hr => (dss_cons (ds_set 1 S__law_deep.nd (de_fn F__law_some (hr.mono (by decide)) tkX (da_cons (de_var 0) (da_cons (df_lst (da_cons de_non (da_cons (de_neg de_int) (da_cons de_str da_nil)))).d da_nil))))
    (dss_cons (ds_for hpX (di_range1 (m := false) T.z_range (da_cons (de_add de_int (de_fn F__law_draw (hr.mono (by decide)) tkX (da_cons (de_var 0) (da_cons de_int da_nil)))) da_nil)) (dg_name 2 S__law_deep.nd) (dss_one (ds_set 1 S__law_deep.nd (de_fn F__law_some (hr.mono (by decide)) tkX (da_cons (de_var 0) (da_cons (df_lst (da_cons (de_tup (da_cons (de_var 1) da_nil)) (da_cons (df_lst (da_cons (de_var 1) da_nil)).d da_nil))).d da_nil))))))
    (dss_one (ds_ret (de_var 1)))))) (fun xs Q E h => ?_)
  · obtain ⟨rfl, _⟩ := h
    rfl
  · obtain ⟨rfl, hq⟩ := h
    refine ⟨by show 3 ≤ 1000000; decide, _, rfl, by show 1 ≤ 3; decide, by show 3 ≤ 1000000; decide, fun t ht => ?_⟩
    refine ⟨14, rfl, by decide, by decide, fun i i0 i1 => ?_⟩
    refine ⟨by show -(2 ^ 62) ≤ 12 + i; omega, by show 12 + i < 2 ^ 62; omega, ?_⟩
    refine for_of (rng 0 (12 + i)) (fun done ρ => ∃ (t : D) (v : Option S), ρ = [some (.d .hnd), some (.d t), v] ∧ (done = [] ∨ DeepD t)) ⟨t, _, rfl, .inl rfl⟩ ?_ ?_
    · rintro done x rest ρ e ⟨t, v, rfl, _⟩ N hN
      refine ⟨_, rfl, by show 1 ≤ 1000000; decide, by show 1 ≤ 1000000; decide, by show 2 ≤ 1000000; decide, _, rfl, by show 1 ≤ 2; decide, by show 2 ≤ 1000000; decide, fun t' ht' => hN _ ⟨t', _, rfl, .inr ?_⟩⟩
      rcases List.mem_cons.mp ht' with rfl | ht'
      · exact ⟨t, .inl rfl⟩
      · rcases List.mem_cons.mp ht' with rfl | ht'
        · exact ⟨t, .inr rfl⟩
        · cases ht'
    · rintro ρ ⟨t, v, rfl, h⟩
      rcases h with h | h
      · have q := congrArg List.length h
        rw [rng_length] at q
        simp at q
        omega
      · exact hq t h
theorem ok_no_number (T : Txt K mg) (A : At__law_no_number K mg) {A2 : At__law_some K mg} (F__law_some : FnSp P w K mg base A2 2 sp_some) {A3 : At__law_deep K mg} (F__law_deep : FnSp P w K mg base A3 3 sp_deep) : FnSp P w K mg base A 4 sp_no_number := by
  refine fnS A S__law_no_number (fun xs Q E h => ?_) (fun cdv Ar outer s H E hr => (dss_cons (ds_set 3 S__law_no_number.nd (df_lst (da_cons (de_sub (de_var 1) de_int) (da_cons (de_add (de_var 2) de_int) (da_cons de_non (da_cons de_bl (da_cons (de_strc (m1 := false) (da_cons (de_var 2) da_nil) T.z_str bt_str) (da_cons (de_tup (da_cons (de_var 2) da_nil)) (da_cons (df_lst (da_cons (de_var 2) da_nil)).d (da_cons df_dict0.d (da_cons (de_pow de_int de_int) (da_cons (de_fn F__law_deep (hr.mono (by decide)) tkX (da_cons (de_var 0) da_nil)) da_nil))))))))))).d)
    (dss_one (ds_ret (de_fn F__law_some (hr.mono (by decide)) tkX (da_cons (de_var 0) (da_cons (de_var 3) da_nil))))))) (fun xs Q E h => ?_)
  · obtain ⟨rfl, _⟩ := h
    rfl
  · obtain ⟨rfl, hq⟩ := h
    refine ⟨by decide, by show 1 ≤ 1000000; decide, by show 1 ≤ 1000000; decide, ⟨by decide, by decide, by decide⟩, rfl, fun d hd => ?_⟩
    refine ⟨by show 10 ≤ 1000000; decide, _, rfl, by show 1 ≤ 10; decide, by show 10 ≤ 1000000; decide, fun t ht => ?_⟩
    simp only [List.mem_cons, List.mem_nil_iff, or_false] at ht
    rcases ht with rfl | rfl | rfl | rfl | rfl | rfl | rfl | rfl | rfl | rfl
    · exact hq _ _ rfl rfl
    · exact hq _ _ rfl rfl
    · exact hq _ _ rfl rfl
    · exact hq _ _ rfl rfl
    · exact hq _ _ rfl rfl
    · exact hq _ _ rfl rfl
    · exact hq _ _ rfl rfl
    · exact hq _ _ rfl rfl
    · exact hq _ _ rfl rfl
    · obtain ⟨x, rfl | rfl⟩ := hd
      · exact hq _ _ rfl rfl
      · exact hq _ _ rfl rfl
theorem ok_tally (T : Txt K mg) (A : At__law_tally K mg) : FnSp P w K mg base A 1 sp_tally := by
  refine fnS A S__law_tally (fun xs Q E h => ?_) (fun cdv Ar outer s H E hr => (dss_one (ds_ret (de_tuple (m1 := false) (da_cons (df_lc S__law_tally.nd (di_seq (df_sorted (m1 := false) (da_cons (df_listK (m1 := false) (da_cons (df_dict (m1 := false) (da_cons (df_lc S__law_tally.nd (di_seq (de_var 0)) (own := [("item", 2)]) (blkOk_by (N := ["items", "one", "item"]) (sc := defScope st__law_tally) (by decide +kernel)) (fun _ _ _ _ _ => (dg_name 2 S__law_tally.nd)) (by decide) (fun _ _ _ _ _ => dts_nil) (fun _ _ _ _ _ => (de_tup (da_cons (de_var 2) (da_cons de_bl da_nil))))).d da_nil) T.z_dict bt_dict).d da_nil) T.z_list bt_list).d da_nil) T.z_sorted bt_sorted).d) (own := [("one", 1)]) (blkOk_by (N := ["items", "one", "item"]) (sc := defScope st__law_tally) (by decide +kernel)) (fun _ _ _ _ _ => (dg_name 1 S__law_tally.nd)) (by decide) (fun _ _ _ _ _ => dts_nil) (fun _ _ _ _ _ => (de_tup (da_cons (de_var 1) (da_cons (de_count (m1 := false) (m2 := false) (de_var 0) (de_var 1)) da_nil))))).d da_nil) T.z_tuple bt_tuple)))) (fun xs Q E h => ?_)
  · obtain ⟨ns, rfl, _⟩ := h
    rfl
  · obtain ⟨ns, rfl, hl, hq⟩ := h
    refine ⟨rfl, rfl, ?_⟩
    refine lc_map D.int (fun k => D.tup [.int k, .bl true]) ns (fun k hk => ⟨_, rfl, fun Q E q => ⟨by show 2 ≤ 1000000; decide, q⟩⟩) (by show _ ≤ 1000000; omega) ?_
    refine ⟨ns.map fun k => (.inl k, .bl true), by rw [List.map_map]; rfl, ?_⟩
    obtain ⟨ks, e1, e2, e3⟩ := merge_kvF (F := fun _ => D.bl true) ns [] List.nodup_nil
    have e4 : mergeD [] (ns.map fun k => ((.inl k, .bl true) : Key × D)) = kvF (fun _ => .bl true) ks := e1
    rw [e4]
    refine ⟨ks, ?_, fun ns' p1 p2 => ?_⟩
    · unfold kvF
      rw [List.map_map]
      rfl
    have e5 : ns' = keys ns := keysort e2 (fun x => by rw [e3]; simp) p1 p2
    have hl2 : ns'.length ≤ 1000000 := by
      have q : ns'.length ≤ ns.length := by
        rw [p1.length_eq]
        exact List.Nodup.length_le_of_subset e2 fun x hx => by
          have := (e3 x).mp hx
          simpa using this
      omega
    refine lc_map D.int (fun k => D.tup [.int k, .int (ns.count k : Nat)]) ns' (fun k hk => ⟨_, rfl, fun Q E q => ⟨all_flat ns, rfl, by show 2 ≤ 1000000; decide, ?_⟩⟩) hl2 ?_
    · rw [count_ints]
      exact q
    · have e6 : ns'.map (fun k => D.tup [.int k, .int (ns.count k : Nat)]) = (tl ns).map PL.pairD := by
        rw [e5]
        unfold tl
        rw [List.map_map]
        rfl
      rw [e6]
      exact hq
theorem ok_are_three (T : Txt K mg) (A : At__law_are_three K mg) : FnSp P w K mg base A 1 sp_are_three := by
  refine fnS A S__law_are_three (fun xs Q E h => ?_) (fun cdv Ar outer s H E hr => (dss_cons (ds_lc 1 S__law_are_three.nd (di_seq (de_var 0)) (own := [("pair", 2)]) (blkOk_by (N := ["pairs", "sizes", "pair"]) (sc := defScope st__law_are_three) (by decide +kernel)) (fun _ _ _ _ _ => (dg_name 2 S__law_are_three.nd)) (by decide) (fun _ _ _ _ _ => dts_nil) (fun _ _ _ _ _ => (de_at (m1 := false) (m2 := false) (de_var 2) de_int)))
    (dss_one (ds_ret (de_or (m' := false) (de_lt (de_len (m1 := false) (da_cons (de_var 1) da_nil) T.z_len bt_len) de_int) (de_one (de_and (m' := false) (de_eq (m1 := false) (m2 := false) hr (de_len (m1 := false) (da_cons (de_var 1) da_nil) T.z_len bt_len) de_int) (de_one (de_eq (m1 := false) (m2 := false) hr (de_at (m1 := false) (m2 := false) (de_var 1) de_int) (de_add (de_at (m1 := false) (m2 := false) (de_var 1) de_int) (de_at (m1 := false) (m2 := false) (de_var 1) de_int))))))))))) (fun xs Q E h => ?_)
  · obtain ⟨ns, rfl, _⟩ := h
    rfl
  · obtain ⟨ps, rfl, hl, h3, hq⟩ := h
    refine ⟨rfl, ?_⟩
    refine lc_map PL.pairD (fun p => D.int p.1) ps (fun p hp => ⟨_, rfl, fun Q E q => q⟩) (by show _ ≤ 1000000; omega) ?_
    have hq2 : ∀ b c : Bool, (b || c) = true → Q (.bl (b || c)) := fun b c h => by rw [h]; exact hq
    dsimp only [wRet]
    rcases h3 with h3 | ⟨a, b, c, rfl, h3⟩
    · refine or_of true true (fun Q E q => ?_) (fun h => nomatch h) hq
      have e : decide (((ps.map fun p => D.int p.1).length : Int) < 3) = true := by
        rw [List.length_map]
        exact decide_eq_true (by omega)
      show Q (.bl (decide (((ps.map fun p => D.int p.1).length : Int) < 3)))
      rw [e]
      exact q
    · refine or_of false true (fun Q E q => q) (fun _ Q E q => ?_) hq
      refine and_of true true (fun Q E q => ⟨rfl, rfl, Nat.zero_le _, q⟩) (fun _ Q E q => ⟨rfl, rfl, Nat.zero_le _, ?_⟩) q
      show Q (.bl (decide (c.1 = a.1 + b.1)))
      rw [decide_eq_true h3]
      exact q
theorem ok_dots (T : Txt K mg) (A : At__law_dots K mg) : FnSp P w K mg base A 1 sp_dots := by
  refine fnS A S__law_dots (fun xs Q E h => ?_) (fun cdv Ar outer s H E hr => (dss_one (ds_ret (df_lc S__law_dots.nd (di_range1 (m := false) T.z_range (da_cons (de_var 2) da_nil)) (own := [("number", 3)]) (blkOk_by (N := ["size", "step", "many", "number"]) (sc := defScope st__law_dots) (by decide +kernel)) (fun _ _ _ _ _ => (dg_name 3 S__law_dots.nd)) (by decide) (fun _ _ _ _ _ => dts_nil) (fun _ _ _ _ _ => (de_mod (de_intc (m1 := false) (da_cons (de_mul (de_var 3) (de_var 1)) da_nil) T.z_int bt_int) (de_var 0)))).d))) (fun xs Q E h => ?_)
  · obtain ⟨n, s, m, rfl, _⟩ := h
    rfl
  · obtain ⟨n, s, m, rfl, h1, h2, h3, hq⟩ := h
    refine ⟨rfl, by omega, by omega, ?_⟩
    rw [rng_nat]
    refine lc_map (fun (i : Nat) => D.int (i : Int)) (fun (i : Nat) => D.int ((i : Int) * (s : Int) % (n : Int))) _ (fun i hi => ⟨_, rfl, fun Q E q => ⟨cm_r (by omega) (by omega), by omega, q⟩⟩) (by rw [List.length_range]; show m ≤ 1000000; omega) hq
theorem ok_gaps (T : Txt K mg) (A : At__law_gaps K mg) {A1 : At__law_tally K mg} (F__law_tally : FnSp P w K mg base A1 1 sp_tally) : FnSp P w K mg base A 2 sp_gaps := by
  refine fnS A S__law_gaps (fun xs Q E h => ?_) (fun cdv Ar outer s H E hr => (dss_cons (ds_set 2 S__law_gaps.nd (df_sorted (m1 := false) (da_cons (de_var 1) da_nil) T.z_sorted bt_sorted).d)
    (dss_one (ds_ret (de_fn F__law_tally (hr.mono (by decide)) tkX (da_cons (df_lc S__law_gaps.nd (di_zip T.z_zip (da_cons (de_var 2) (da_cons (df_cat (m1 := false) (m2 := false) (df_cutL (m1 := false) (de_var 2) (do_some (m1 := false) de_int) do_none).d (df_lst (da_cons (de_add (de_at (m1 := false) (m2 := false) (de_var 2) de_int) (de_var 0)) da_nil)).d).d da_nil))) (own := [("one", 3), ("other", 4)]) (blkOk_by (N := ["size", "dots", "rows", "one", "other"]) (sc := defScope st__law_gaps) (by decide +kernel)) (fun _ _ _ _ _ => (dg_tupK K 2 (dgs_cons (dg_name 3 S__law_gaps.nd) (dgs_cons (dg_name 4 S__law_gaps.nd) dgs_nil)))) (by decide) (fun _ _ _ _ _ => dts_nil) (fun _ _ _ _ _ => (de_sub (de_var 4) (de_var 3)))).d da_nil)))))) (fun xs Q E h => ?_)
  · obtain ⟨n, ds, rfl, _⟩ := h
    rfl
  · obtain ⟨n, ds, rfl, h1, h2, hq⟩ := h
    refine ⟨ds, rfl, fun ns' p1 p2 => ?_⟩
    have e : ns' = srt ds := srt_uniq p1 p2
    have hlen : ns'.length = ds.length := p1.length_eq
    have hd : ns'[0]? = some (ns'.headD 0) := by
      cases ns' with
      | nil => rw [List.length_nil] at hlen; omega
      | cons a l => rfl
    refine ⟨rfl, ?_⟩
    refine ixL_of (z := .int (ns'.headD 0)) (atI_of (i := 0) (by rw [List.getElem?_map, hd]; rfl)) ?_
    refine ⟨by show 1 ≤ 1000000; omega, ?_⟩
    have ecut : cutD (ns'.map D.int) (some 1) none = (ns'.drop 1).map D.int := by rw [cut1, List.map_drop]
    refine ⟨?_, ?_⟩
    · show (cutD (ns'.map D.int) (some 1) none).length + 1 ≤ 1000000
      rw [ecut, List.length_map, List.length_drop]
      omega
    show lcL _ _ _ _ (zipD (ns'.map D.int) (cutD (ns'.map D.int) (some 1) none ++ [D.int (ns'.headD 0 + (n : Int))])) _ _
    have ez : zipD (ns'.map D.int) (cutD (ns'.map D.int) (some 1) none ++ [D.int (ns'.headD 0 + (n : Int))]) = (ns'.zip (ns'.drop 1 ++ [ns'.headD 0 + (n : Int)])).map PL.pairD := by
      rw [ecut, ← zipD_ints, List.map_append]
      rfl
    rw [ez]
    refine lc_map PL.pairD (fun p => D.int (p.2 - p.1)) _ (fun p hp => ⟨_, rfl, fun Q E q => q⟩) ?_ ?_
    · rw [List.length_zip, hlen]
      show min _ _ ≤ 1000000
      omega
    rw [dots_gaps hd]
    refine ⟨gapsI n ns', rfl, ?_, ?_⟩
    · rw [gapsI_length (by omega)]
      omega
    · rw [e]
      exact hq
end
end K66
end
section
set_option Elab.async false
set_option linter.all false
set_option maxRecDepth 100000
set_option maxHeartbeats 4000000
namespace K66
open PySem PySem.Spec PyProof.Rows L2 PL
variable [PL.TabList]
abbrev st__law_backs : Stmt := top 30
theorem S__law_backs : FnScope ["size", "step", "length", "found", "dot", "here", "steps"] ["size", "step", "length"] (defScope st__law_backs) := ⟨rfl, rfl, rfl, by decide +kernel, rfl, by decide +kernel, by decide +kernel⟩
abbrev At__law_backs (K : PySem.W.Frag) (mg : Str → Option Value) := FnAt K mg "_law_backs" "_law_backs" st__law_backs ["size", "step", "length"]
abbrev st__law_unlike : Stmt := top 31
theorem S__law_unlike : FnScope ["size", "step", "count", "here"] ["size", "step"] (defScope st__law_unlike) := ⟨rfl, rfl, rfl, by decide +kernel, rfl, by decide +kernel, by decide +kernel⟩
abbrev At__law_unlike (K : PySem.W.Frag) (mg : Str → Option Value) := FnAt K mg "_law_unlike" "_law_unlike" st__law_unlike ["size", "step"]
def spB : SPEC := fun _ _ _ => False
/-- at most n deep, n from 1 on -/
def sp_isN : Nat → SPEC
  | 0 => spB
  | n + 1 => sp_is n
theorem ok_bot {P : Program} {w : World} {K : PySem.W.Frag} {mg : Str → Option Value} {base : Heap} {k : Nat} {f : Addr} {fd : FuncData} {ps : List Str} : FnOk P w K mg base (L2.CX P w) k f fd ps (toSp K spB) :=
  ⟨fun _ _ _ _ ⟨_, _, _, _, _, _, _, z, _⟩ => z.elim, fun _ _ _ _ _ _ _ _ _ _ _ _ _ ⟨_, _, _, _, _, _, _, z, _⟩ => z.elim⟩
def isSeq : D → Bool
  | .tup _ => true
  | .lst _ => true
  | _ => false
theorem any_seq {x : D} {n : String} (h : tyD x = some n) : (["tuple", "list"].any (isS n)) = isSeq x := by
  cases x <;> first | (cases h; done) | (cases h; first | rfl | decide)
theorem qe {α : Type} {Q : α → Prop} {a b : α} (e : a = b) (q : Q b) : Q a := e ▸ q
theorem ne_self (b : Bool) : (!eqD (.bl b) (.bl b)) = false := by cases b <;> rfl
theorem eq_self' (b : Bool) : eqD (.bl b) (.bl b) = true := by cases b <;> rfl
theorem eqI_self (i : Int) : eqD (.int i) (.int i) = true := by
  show decide (i = i) = true
  simp
theorem eqS_self (i : Str) : eqD (.str i) (.str i) = true := by
  show decide (i = i) = true
  simp
theorem tyD_pl {n : Nat} {x : D} (h : isPl n x = true) : ∃ t, tyD x = some t := by
  cases x <;> first | exact ⟨_, rfl⟩ | (cases n <;> (unfold isPl at h; cases h))
theorem zip_self (xs : List D) : zipD xs xs = xs.map fun x => D.tup [x, x] := by
  unfold zipD
  induction xs with
  | nil => rfl
  | cons x xs ih => rw [List.zip_cons_cons, List.map_cons, List.map_cons, ih]
theorem pls_mem {n : Nat} {x : D} : ∀ {xs : List D}, isPls n xs = true → x ∈ xs → isPl n x = true
  | y :: ys, h, hx => by
    unfold isPls at h
    rw [Bool.and_eq_true] at h
    rcases List.mem_cons.mp hx with rfl | hx
    · exact h.1
    · exact pls_mem h.2 hx
def sp_backs : SPEC := fun xs Q _ => ∃ n s L : Nat, xs = [.int n, .int s, .int L] ∧ 1 ≤ n ∧ n ≤ 1000 ∧ s < n ∧ 1 ≤ L ∧ L ≤ n ∧ Q (.tup ((tl (backsI n s L)).map PL.pairD))
/-- u: how many dots are unlike -/
def IsOrd (n s u : Nat) : Prop := 1 ≤ u ∧ (u * s) % n = 0 ∧ ∀ j, 1 ≤ j → j < u → (j * s) % n ≠ 0
def sp_unlike : SPEC := fun xs Q _ => ∃ n s : Nat, xs = [.int n, .int s] ∧ 1 ≤ n ∧ ∀ u, IsOrd n s u → Q (.int u)
section
variable {P : Program} {w : World} {K : PySem.W.Frag} {mg : Str → Option Value} {base : Heap}
theorem ok_is_step (T : Txt K mg) (A : At__law_is K mg) {k n : Nat} (F__law_is : FnSp P w K mg base A k (sp_isN n)) : FnSp P w K mg base A (k + 1) (sp_isN (n + 1)) := by
  refine fnS A S__law_is (fun xs Q E h => ?_) (fun cdv Ar outer s H E hr => (dss_cons (ds_if (dt_b (m := false) (de_isiT (m1 := false) (de_var 1) (da_cons (de_bty T.z_tuple bt_tuple) (da_cons (de_bty T.z_list bt_list) da_nil)) T.z_isinstance bt_isinstance)) (dss_cons (ds_if (dw_or (dt_ne (m1 := false) (m2 := false) hr (de_isi (m1 := false) (da_cons (de_var 0) (da_cons (de_bty T.z_tuple bt_tuple) da_nil)) T.z_isinstance bt_isinstance) (de_isi (m1 := false) (da_cons (de_var 1) (da_cons (de_bty T.z_tuple bt_tuple) da_nil)) T.z_isinstance bt_isinstance)) (dw_or1 (dt_ne (m1 := false) (m2 := false) hr (de_isi (m1 := false) (da_cons (de_var 0) (da_cons (de_bty T.z_list bt_list) da_nil)) T.z_isinstance bt_isinstance) (de_isi (m1 := false) (da_cons (de_var 1) (da_cons (de_bty T.z_list bt_list) da_nil)) T.z_isinstance bt_isinstance)))).t (dss_one (ds_ret de_bl)) dss_nil)
    (dss_one (ds_ret (de_and (m' := false) (de_eq (m1 := false) (m2 := false) hr (de_len (m1 := false) (da_cons (de_var 0) da_nil) T.z_len bt_len) (de_len (m1 := false) (da_cons (de_var 1) da_nil) T.z_len bt_len)) (de_one (de_all (m1 := false) (da_cons (df_lc S__law_is.nd (di_zip T.z_zip (da_cons (de_var 0) (da_cons (de_var 1) da_nil))) (own := [("one", 2), ("other", 3)]) (blkOk_by (N := ["thing", "due", "one", "other"]) (sc := defScope st__law_is) (by decide +kernel)) (fun _ _ _ _ _ => (dg_tupK K 2 (dgs_cons (dg_name 2 S__law_is.nd) (dgs_cons (dg_name 3 S__law_is.nd) dgs_nil)))) (by decide) (fun _ _ _ _ _ => dts_nil) (fun _ _ _ _ _ => (de_fn F__law_is (hr) takes0 (da_cons (de_var 2) (da_cons (de_var 3) da_nil))))).d da_nil) T.z_all bt_all)))))) dss_nil)
    (dss_cons (ds_if (dw_or (dt_isN (m1 := false) (m2 := false) (de_var 1) de_non) (dw_or1 (dt_isN (m1 := false) (m2 := false) (de_var 0) de_non))).t (dss_one (ds_ret (de_and (m' := false) (de_isN (m1 := false) (m2 := false) (de_var 1) de_non) (de_one (de_isN (m1 := false) (m2 := false) (de_var 0) de_non))))) dss_nil)
    (dss_cons (ds_if (dw_or (dt_ne (m1 := false) (m2 := false) hr (de_isi (m1 := false) (da_cons (de_var 0) (da_cons (de_bty T.z_bool bt_bool) da_nil)) T.z_isinstance bt_isinstance) (de_isi (m1 := false) (da_cons (de_var 1) (da_cons (de_bty T.z_bool bt_bool) da_nil)) T.z_isinstance bt_isinstance)) (dw_or1 (dt_ne (m1 := false) (m2 := false) hr (de_isi (m1 := false) (da_cons (de_var 0) (da_cons (de_bty T.z_int bt_int) da_nil)) T.z_isinstance bt_isinstance) (de_isi (m1 := false) (da_cons (de_var 1) (da_cons (de_bty T.z_int bt_int) da_nil)) T.z_isinstance bt_isinstance)))).t (dss_one (ds_ret de_bl)) dss_nil)
    (dss_one (ds_ret (de_and (m' := false) (de_eq (m1 := false) (m2 := false) hr (de_isi (m1 := false) (da_cons (de_var 0) (da_cons (de_bty T.z_str bt_str) da_nil)) T.z_isinstance bt_isinstance) (de_isi (m1 := false) (da_cons (de_var 1) (da_cons (de_bty T.z_str bt_str) da_nil)) T.z_isinstance bt_isinstance)) (de_one (de_eq (m1 := false) (m2 := false) hr (de_var 0) (de_var 1)))))))))) (fun xs Q E h => ?_)
  · obtain ⟨x, rfl, _⟩ := h
    rfl
  · obtain ⟨x, rfl, hp, hq⟩ := h
    obtain ⟨t, ht⟩ := tyD_pl hp
    refine seq_of (if_of (isSeq x) (fun Q E q => ⟨t, ["tuple", "list"], ht, rfl, by decide, by show 2 ≤ 1000000; decide, qe (Q := Q) (any_seq ht) q⟩) (fun hs => ?_) (fun hs => ?_))
    · refine seq_of (if_of false (fun Q E q => ?_) (fun h => nomatch h) (fun _ => ?_))
      · refine tor_of false false (fun Q E q => ⟨t, ht, by decide, t, ht, by decide, rfl, rfl, Nat.zero_le _, qe (Q := Q) (ne_self _) q⟩) (fun _ Q E q => ⟨t, ht, by decide, t, ht, by decide, rfl, rfl, Nat.zero_le _, qe (Q := Q) (ne_self _) q⟩) q
      have go : ∀ (Q : D → Prop), Q (.bl true) → ∀ xs : List D, (xs.length ≤ 1000000) → (∀ y ∈ xs, ∃ m, n = m + 1 ∧ isPl m y = true) → lcL (gT 2 (gsCons (gN 2) (gsCons (gN 3) gsNil))) wYes (wCall (sp_isN n) (wCons (wV 2) (wCons (wV 3) wNil))) (wipeP (startP ["thing", "due", "one", "other"] [x, x]) [2, 3]) (zipD xs xs) [] (fun z => fAll [z] fun d => Q d) := by
        intro Q hq xs hl hy
        rw [zip_self]
        refine lc_map (fun x => D.tup [x, x]) (fun _ => D.bl true) xs (fun y hm => ⟨_, rfl, fun Q E q => ?_⟩) hl ?_
        · obtain ⟨m, rfl, h⟩ := hy y hm
          exact ⟨y, rfl, h, q⟩
        · refine ⟨xs.map fun _ => true, by rw [List.map_map]; rfl, ?_⟩
          have e : (xs.map fun _ => true).all id = true := by
            rw [List.all_map]
            exact List.all_eq_true.mpr fun _ _ => rfl
          rw [e]
          exact hq
      dsimp only [wRet, wNext]
      cases x <;> first | (cases hs; done) | skip
      · rename_i xs
        cases n with
        | zero => unfold isPl at hp; cases hp
        | succ n =>
          have hp : (decide (xs.length ≤ 1000000) && isPls n xs) = true := by unfold isPl at hp; exact hp
          rw [Bool.and_eq_true, decide_eq_true_eq] at hp
          exact and_of true true (fun Q E q => ⟨rfl, rfl, Nat.zero_le _, qe (Q := fun b => Q (.bl b)) (eqI_self _) q⟩) (fun _ Q E q => ⟨rfl, go Q q xs hp.1 fun y hy => ⟨n, rfl, pls_mem hp.2 hy⟩⟩) hq
      · rename_i xs
        cases n with
        | zero => unfold isPl at hp; cases hp
        | succ n =>
          have hp : (decide (xs.length ≤ 1000000) && isPls n xs) = true := by unfold isPl at hp; exact hp
          rw [Bool.and_eq_true, decide_eq_true_eq] at hp
          exact and_of true true (fun Q E q => ⟨rfl, rfl, Nat.zero_le _, qe (Q := fun b => Q (.bl b)) (eqI_self _) q⟩) (fun _ Q E q => ⟨rfl, go Q q xs hp.1 fun y hy => ⟨n, rfl, pls_mem hp.2 hy⟩⟩) hq
    · dsimp only [wNext]
      cases x <;> first | (cases hs; done) | (cases n <;> (unfold isPl at hp; cases hp; done)) | skip
      · refine seq_of (if_of true (fun Q E q => tor_of true false (fun Q E q => q) (fun h => nomatch h) q) (fun _ => hq) (fun h => nomatch h))
      all_goals
        refine seq_of (if_of false (fun Q E q => tor_of false false (fun Q E q => q) (fun _ Q E q => q) q) (fun h => nomatch h) (fun _ => ?_))
        dsimp only [wNext]
        refine seq_of (if_of false (fun Q E q => ?_) (fun h => nomatch h) (fun _ => ?_))
        · refine tor_of false false (fun Q E q => ⟨t, ht, by decide, t, ht, by decide, rfl, rfl, Nat.zero_le _, qe (Q := Q) (ne_self _) q⟩) (fun _ Q E q => ⟨t, ht, by decide, t, ht, by decide, rfl, rfl, Nat.zero_le _, qe (Q := Q) (ne_self _) q⟩) q
        dsimp only [wNext, wRet]
        refine and_of true true (fun Q E q => ⟨t, ht, by decide, t, ht, by decide, rfl, rfl, Nat.zero_le _, qe (Q := fun b => Q (.bl b)) (eq_self' _) q⟩) (fun _ Q E q => ⟨rfl, rfl, Nat.zero_le _, qe (Q := fun b => Q (.bl b)) ?_ q⟩) hq
        first | exact eq_self' _ | exact eqI_self _ | exact eqS_self _
theorem ok_backs (T : Txt K mg) (A : At__law_backs K mg) {A4 : At__law_tally K mg} (F__law_tally : FnSp P w K mg base A4 1 sp_tally) : FnSp P w K mg base A 2 sp_backs := by
  refine fnS A S__law_backs (fun xs Q E h => ?_) (fun cdv Ar outer s H E hr => (dss_cons (ds_own 3 S__law_backs.nd (df_lst da_nil))
    (dss_cons (ds_for hpX (di_range1 (m := false) T.z_range (da_cons (de_var 2) da_nil)) (dg_name 4 S__law_backs.nd) (dss_cons (ds_par 5 6 (de_mod (de_intc (m1 := false) (da_cons (de_add (de_var 4) (de_var 1)) da_nil) T.z_int bt_int) (de_var 0)) de_int S__law_backs.nd)
    (dss_cons (ds_while hpX (dt_ge (de_var 5) (de_var 2)) (dss_one (ds_par 5 6 (de_mod (de_intc (m1 := false) (da_cons (de_add (de_var 5) (de_var 1)) da_nil) T.z_int bt_int) (de_var 0)) (de_add (de_var 6) de_int) S__law_backs.nd)))
    (dss_one (ds_app 3 (de_var 6))))))
    (dss_one (ds_frz 3 (ds_ret (de_fn F__law_tally (hr.mono (by decide)) tkX (da_cons (de_var 3) da_nil)))))))) (fun xs Q E h => ?_)
  · obtain ⟨n, s, L, rfl, _⟩ := h
    rfl
  · obtain ⟨n, s, L, rfl, n1, n2, n3, m1, m2, hq⟩ := h
    refine ⟨by show 0 ≤ 1000000; omega, by omega, by omega, ?_⟩
    rw [rng_nat]
    refine for_of _ (fun done ρ => ∃ (i : Nat) (v4 v5 v6 : Option S), done = (List.range i).map (fun (i : Nat) => D.int (i : Int)) ∧ i ≤ L ∧
      ρ = [some (.d (.int n)), some (.d (.int s)), some (.d (.int L)), some (.own (.lst ((List.range i).map fun d => D.int (ret n s L d : Int)))), v4, v5, v6]) ⟨0, _, _, _, rfl, Nat.zero_le _, rfl⟩ ?_ ?_
    · rintro done x rest ρ e ⟨i, v4, v5, v6, rfl, hi, rfl⟩ N hN
      have hiL : i < L := by
        have q := congrArg List.length e
        simp at q
        omega
      obtain rfl : x = .int (i : Int) := by
        have q := congrArg (fun l => l[i]?) e
        simp only [List.getElem?_map] at q
        rw [List.getElem?_range hiL, List.getElem?_append_right (by simp)] at q
        simp at q
        exact q.symm
      have e1 : ((i : Int) + (s : Int)) % (n : Int) = (((i + 1 * s) % n : Nat) : Int) := by
        rw [Int.natCast_emod, Nat.one_mul]
        rfl
      refine ⟨_, rfl, seq_of (parV_of (.int (((i + 1 * s) % n : Nat) : Int)) (.int 1) (fun Q E q => ⟨by omega, by rw [← e1] at q; exact q⟩) (fun Q E q => q) ?_)⟩
      dsimp only
      refine seq_of (while_of (fun k ρ => ∃ t : Nat, 1 ≤ t ∧ t ≤ n ∧ k = n - t ∧ (∀ j, 1 ≤ j → j < t → L ≤ (i + j * s) % n) ∧
        ρ = [some (.d (.int n)), some (.d (.int s)), some (.d (.int L)), some (.own (.lst ((List.range i).map fun d => D.int (ret n s L d : Int)))), some (.d (.int (i : Int))), some (.d (.int (((i + t * s) % n : Nat) : Int))), some (.d (.int (t : Int)))]) (n - 1)
        ⟨1, Nat.le_refl _, n1, rfl, fun j a b => by omega, rfl⟩ ?_)
      rintro k ρ ⟨t, t1, t2, rfl, t3, rfl⟩
      refine ⟨decide ((L : Int) ≤ (((i + t * s) % n : Nat) : Int)), fun Q E q => q, fun h => ?_, fun h => ?_⟩
      · have h := of_decide_eq_true h
        have hL : L ≤ (i + t * s) % n := by omega
        have tn : t ≠ n := fun q => by
          have := ret_top (s := s) hiL m2
          rw [q] at hL
          omega
        refine ⟨by omega, n - (t + 1), by omega, t + 1, by omega, by omega, rfl, fun j a b => ?_, ?_⟩
        · by_cases q : j = t
          · rw [q]; exact hL
          · exact t3 j a (by omega)
        · have e2 : ((((i + t * s) % n : Nat) : Int) + (s : Int)) % (n : Int) = (((i + (t + 1) * s) % n : Nat) : Int) := by
            rw [← mod_step, Int.natCast_emod _ n]
            rfl
          rw [← e2]
          rfl
      · have h := of_decide_eq_false h
        have er : ret n s L i = t := ret_eq ⟨t1, by omega, t3⟩
        refine app_of (.int (t : Int)) _ (fun Q E q => q) rfl ?_ (hN _ ⟨i + 1, some (.d (.int (i : Int))), some (.d (.int (((i + t * s) % n : Nat) : Int))), some (.d (.int (t : Int))), ?_, by omega, ?_⟩)
        · rw [List.length_map, List.length_range]
          show i < 1000000
          omega
        · rw [List.range_succ, List.map_append]
          rfl
        · have e5 : (List.range (i + 1)).map (fun d => D.int (ret n s L d : Int)) = (List.range i).map (fun d => D.int (ret n s L d : Int)) ++ [D.int (t : Int)] := by
            rw [List.range_succ, List.map_append, ← er]
            rfl
          rw [e5]
          rfl
    · rintro ρ ⟨i, v4, v5, v6, e, hi, rfl⟩
      obtain rfl : i = L := by
        have q := congrArg List.length e
        simp at q
        exact q.symm
      refine ⟨backsI n s i, ?_, ?_, hq⟩
      · unfold backsI
        rw [List.map_map]
        rfl
      · unfold backsI
        rw [List.length_map, List.length_range]
        omega
theorem ok_unlike (T : Txt K mg) (A : At__law_unlike K mg) : FnSp P w K mg base A 1 sp_unlike := by
  refine fnS A S__law_unlike (fun xs Q E h => ?_) (fun cdv Ar outer s H E hr => (dss_cons (ds_par 2 3 de_int (de_mod (de_intc (m1 := false) (da_cons (de_var 1) da_nil) T.z_int bt_int) (de_var 0)) S__law_unlike.nd)
    (dss_cons (ds_while hpX (dt_ne (m1 := false) (m2 := false) hr (de_var 3) de_int) (dss_one (ds_par 3 2 (de_mod (de_intc (m1 := false) (da_cons (de_add (de_var 3) (de_var 1)) da_nil) T.z_int bt_int) (de_var 0)) (de_add (de_var 2) de_int) S__law_unlike.nd)))
    (dss_one (ds_ret (de_var 2)))))) (fun xs Q E h => ?_)
  · obtain ⟨n, s, rfl, _⟩ := h
    rfl
  · obtain ⟨n, s, rfl, n1, hq⟩ := h
    have e1 : (s : Int) % (n : Int) = (((1 * s) % n : Nat) : Int) := by
      rw [Int.natCast_emod, Nat.one_mul]
    refine seq_of (parV_of (.int 1) (.int (((1 * s) % n : Nat) : Int)) (fun Q E q => q) (fun Q E q => ⟨by omega, by rw [← e1] at q; exact q⟩) ?_)
    dsimp only
    refine seq_of (while_of (fun k ρ => ∃ t : Nat, 1 ≤ t ∧ t ≤ n ∧ k = n - t ∧ (∀ j, 1 ≤ j → j < t → (j * s) % n ≠ 0) ∧
      ρ = [some (.d (.int n)), some (.d (.int s)), some (.d (.int (t : Int))), some (.d (.int (((t * s) % n : Nat) : Int)))]) (n - 1)
      ⟨1, Nat.le_refl _, n1, rfl, fun j a b => by omega, rfl⟩ ?_)
    rintro k ρ ⟨t, t1, t2, rfl, t3, rfl⟩
    refine ⟨!decide ((((t * s) % n : Nat) : Int) = 0), fun Q E q => ⟨rfl, rfl, Nat.zero_le _, q⟩, fun h => ?_, fun h => ?_⟩
    · have h := of_decide_eq_false (nt h)
      have hL : (t * s) % n ≠ 0 := fun q => h (by rw [q]; rfl)
      have tn : t ≠ n := fun q => hL (by rw [q, Nat.mul_mod_right])
      have e2 : ((((t * s) % n : Nat) : Int) + (s : Int)) % (n : Int) = ((((t + 1) * s) % n : Nat) : Int) := by
        have := mod_step (a := 0) (s := s) (n := n) t
        rw [Nat.zero_add, Nat.zero_add] at this
        rw [← this, Int.natCast_emod _ n]
        rfl
      refine parV_of (.int ((((t + 1) * s) % n : Nat) : Int)) (.int ((t : Int) + 1)) (fun Q E q => ⟨by omega, by rw [← e2] at q; exact q⟩) (fun Q E q => q) ?_
      refine ⟨n - (t + 1), by omega, t + 1, by omega, by omega, rfl, fun j a b => ?_, rfl⟩
      by_cases q : j = t
      · rw [q]; exact hL
      · exact t3 j a (by omega)
    · have h := of_decide_eq_true (nf h)
      have hL : (t * s) % n = 0 := by omega
      exact hq t ⟨t1, hL, t3⟩
end
end K66
end
section
set_option Elab.async false
set_option linter.all false
set_option maxRecDepth 100000
set_option maxHeartbeats 4000000
/-! Three lengths: turns of a ring, in plain numbers. -/
namespace M66
open PL
variable [PL.TabList]
/-- the least number from 1 on with p -/
theorem least {p : Nat → Prop} {n : Nat} (h1 : 1 ≤ n) (h : p n) : ∃ a, 1 ≤ a ∧ a ≤ n ∧ p a ∧ ∀ k, 1 ≤ k → k < a → ¬ p k := by
  classical
  have key : ∀ m a, 1 ≤ a → a + m = n → (∀ k, 1 ≤ k → k < a → ¬ p k) → ∃ a, 1 ≤ a ∧ a ≤ n ∧ p a ∧ ∀ k, 1 ≤ k → k < a → ¬ p k := by
    intro m
    induction m with
    | zero =>
      intro a ha e hk
      rw [Nat.add_zero] at e
      subst e
      exact ⟨a, ha, Nat.le_refl _, h, hk⟩
    | succ m ih =>
      intro a ha e hk
      by_cases q : p a
      · exact ⟨a, ha, by omega, q, hk⟩
      · refine ih (a + 1) (by omega) (by omega) fun k k1 k2 => ?_
        by_cases z : k = a
        · rw [z]; exact q
        · exact hk k k1 (by omega)
  exact key (n - 1) 1 (Nat.le_refl _) (by omega) fun k a b => by omega
/-- the least value of f on 1 .. N - 1 -/
theorem argmin {f : Nat → Nat} : ∀ {N : Nat}, 2 ≤ N → ∃ q, 1 ≤ q ∧ q < N ∧ ∀ k, 1 ≤ k → k < N → f q ≤ f k
  | 0, h => by omega
  | 1, h => by omega
  | 2, _ => ⟨1, by omega, by omega, fun k a b => by rw [show k = 1 by omega]; exact Nat.le_refl _⟩
  | N + 3, _ => by
    obtain ⟨q, q1, q2, q3⟩ := argmin (f := f) (N := N + 2) (by omega)
    by_cases h : f q ≤ f (N + 2)
    · exact ⟨q, q1, by omega, fun k a b => by
        by_cases z : k = N + 2
        · rw [z]; exact h
        · exact q3 k a (by omega)⟩
    · exact ⟨N + 2, by omega, by omega, fun k a b => by
        by_cases z : k = N + 2
        · rw [z]; exact Nat.le_refl _
        · have := q3 k a (by omega)
          omega⟩
structure Turn (n : Nat) (f : Nat → Nat) : Prop where
  lt : ∀ k, f k < n
  add : ∀ i j, f (i + j) = f i + f j ∨ f (i + j) + n = f i + f j
section
variable {n : Nat} {f : Nat → Nat}
theorem Turn.sub (T : Turn n f) {i j : Nat} (h : i ≤ j) : f j = f (j - i) + f i ∨ f j + n = f (j - i) + f i := by
  have := T.add (j - i) i
  rwa [Nat.sub_add_cancel h] at this
/-- how many steps until back among the first L -/
theorem back (T : Turn n f) {L : Nat} (L1 : 1 ≤ L) (L2 : L ≤ n) (fn : f n = 0) : ∃ a b : Nat, 1 ≤ a ∧ 1 ≤ b ∧ ∀ d, d < L → ∃ r, (r = a ∨ r = b ∨ r = a + b) ∧ (d + f r < L ∨ n ≤ d + f r) ∧ ∀ k, 1 ≤ k → k < r → ¬ (d + f k < L ∨ n ≤ d + f k) := by
  obtain ⟨a, a1, a2, a3, a4⟩ := least (p := fun k => f k < L) (n := n) (by omega) (by omega)
  obtain ⟨b, b1, b2, b3, b4⟩ := least (p := fun k => f k = 0 ∨ n < f k + L) (n := n) (by omega) (by omega)
  refine ⟨a, b, a1, b1, fun d hd => ?_⟩
  have ta := T.lt a
  have tb := T.lt b
  have tab := T.add a b
  have tl := T.lt (a + b)
  -- what a return before the others would be
  have fw : ∀ k, 1 ≤ k → f k < L → k ≠ a → f k < f a → k < a + b → False := fun k k1 k2 k3 k4 k5 => by
    have ka : a < k := by
      rcases Nat.lt_trichotomy k a with z | z | z
      · exact absurd k2 (a4 k k1 z)
      · exact absurd z k3
      · exact z
    have s := T.sub (Nat.le_of_lt ka)
    have l := T.lt (k - a)
    have := b4 (k - a) (by omega) (by omega)
    omega
  have bw : ∀ k, 1 ≤ k → n < f k + L → f b ≠ 0 → f b < f k → k < a + b → False := fun k k1 k2 k3 k4 k5 => by
    by_cases kb : k ≤ b
    · by_cases z : k = b
      · subst z; omega
      · exact absurd (.inr k2) (b4 k k1 (by omega))
    · have s := T.sub (i := b) (j := k) (by omega)
      have l := T.lt (k - b)
      have lk := T.lt k
      have := a4 (k - b) (by omega) (by omega)
      omega
  by_cases c1 : d + f a < L
  · by_cases c2 : f b = 0 ∨ n ≤ d + f b
    · by_cases c3 : a ≤ b
      · refine ⟨a, .inl rfl, .inl c1, fun k k1 k2 => ?_⟩
        have := a4 k k1 k2
        have := b4 k k1 (by omega)
        omega
      · refine ⟨b, .inr (.inl rfl), by omega, fun k k1 k2 => ?_⟩
        have := a4 k k1 (by omega)
        have := b4 k k1 k2
        omega
    · refine ⟨a, .inl rfl, .inl c1, fun k k1 k2 => ?_⟩
      have := a4 k k1 k2
      rintro (h | h)
      · omega
      · exact bw k k1 (by omega) (by omega) (by omega) (by omega)
  · by_cases c2 : f b = 0 ∨ n ≤ d + f b
    · refine ⟨b, .inr (.inl rfl), by omega, fun k k1 k2 => ?_⟩
      have := b4 k k1 k2
      rintro (h | h)
      · exact fw k k1 (by omega) (fun z => by subst z; omega) (by omega) (by omega)
      · omega
    · refine ⟨a + b, .inr (.inr rfl), by omega, fun k k1 k2 => ?_⟩
      rintro (h | h)
      · exact fw k k1 (by omega) (fun z => by subst z; omega) (by omega) (by omega)
      · exact bw k k1 (by omega) (by omega) (by omega) (by omega)
/-- the dot that comes next: at most three lengths -/
theorem next (T : Turn n f) {N : Nat} (N2 : 2 ≤ N) (f0 : ∀ k, 1 ≤ k → k < N → f k ≠ 0) (z0 : f 0 = 0) : ∃ al be : Nat, 0 < al ∧ 0 < be ∧ ∀ i, i < N → ∃ g j, (g = al ∨ g = be ∨ g = al + be) ∧ j < N ∧ (f i + g = f j ∨ f i + g = f j + n) ∧
    ∀ m, m < N → (f i < f m → f i + g ≤ f m) ∧ (f m < f i → f i + g ≤ f m + n) := by
  obtain ⟨q, q1, q2, q3⟩ := argmin (f := f) N2
  obtain ⟨p, p1, p2, p3⟩ := argmin (f := fun k => n - f k) N2
  have tq := T.lt q
  have tp := T.lt p
  have nq := f0 q q1 q2
  refine ⟨f q, n - f p, by omega, by omega, fun i hi => ?_⟩
  have ti := T.lt i
  have pq := p3 q q1 q2
  have pq : n - f p ≤ n - f q := pq
  -- what lies on either side
  have up : ∀ m, i < m → m < N → f q ≤ f (m - i) ∧ f (m - i) ≤ f p ∧ f (m - i) < n ∧ (f m = f (m - i) + f i ∨ f m + n = f (m - i) + f i) := fun m h1 h2 => by
    have s := T.sub (Nat.le_of_lt h1)
    have l := T.lt (m - i)
    have a := q3 (m - i) (by omega) (by omega)
    have b := p3 (m - i) (by omega) (by omega)
    have b : n - f p ≤ n - f (m - i) := b
    exact ⟨a, by omega, l, s⟩
  have dn : ∀ m, m < i → f q ≤ f (i - m) ∧ f (i - m) ≤ f p ∧ f (i - m) < n ∧ (f i = f (i - m) + f m ∨ f i + n = f (i - m) + f m) := fun m h1 => by
    have s := T.sub (Nat.le_of_lt h1)
    have l := T.lt (i - m)
    have a := q3 (i - m) (by omega) (by omega)
    have b := p3 (i - m) (by omega) (by omega)
    have b : n - f p ≤ n - f (i - m) := b
    exact ⟨a, by omega, l, s⟩
  by_cases c1 : i + q < N
  · refine ⟨f q, i + q, .inl rfl, c1, by have := T.add i q; omega, fun m hm => ?_⟩
    have tm := T.lt m
    rcases Nat.lt_trichotomy m i with z | z | z
    · have := dn m z
      have s2 := T.add (i - m) q
      have l2 := T.lt (i - m + q)
      have a := q3 (i - m + q) (by omega) (by omega)
      omega
    · rw [z]; omega
    · have := up m z hm
      omega
  · by_cases c2 : p ≤ i
    · refine ⟨n - f p, i - p, .inr (.inl rfl), by omega, by have := T.sub c2; have := T.lt (i - p); omega, fun m hm => ?_⟩
      have tm := T.lt m
      rcases Nat.lt_trichotomy m i with z | z | z
      · have := dn m z
        omega
      · rw [z]; omega
      · have := up m z hm
        have s2 := T.add (m - i) p
        have l2 := T.lt (m - i + p)
        have a := p3 (m - i + p) (by omega) (by omega)
        have a : n - f p ≤ n - f (m - i + p) := a
        omega
    · refine ⟨f q + (n - f p), i + q - p, .inr (.inr rfl), by omega, ?_, fun m hm => ?_⟩
      · have := T.add i q
        have := T.sub (i := p) (j := i + q) (by omega)
        have := T.lt (i + q)
        have := T.lt (i + q - p)
        omega
      have tm := T.lt m
      rcases Nat.lt_trichotomy m i with z | z | z
      · have := dn m z
        have s2 := T.sub (i := i - m) (j := p) (by omega)
        have l2 := T.lt (p - (i - m))
        have a := q3 (p - (i - m)) (by omega) (by omega)
        omega
      · rw [z]; omega
      · have := up m z hm
        have s2 := T.sub (i := m - i) (j := q) (by omega)
        have l2 := T.lt (q - (m - i))
        have a := p3 (q - (m - i)) (by omega) (by omega)
        have a : n - f p ≤ n - f (q - (m - i)) := a
        have z0 := f0 (q - (m - i)) (by omega) (by omega)
        omega
end
end M66
end
section
set_option Elab.async false
set_option linter.all false
set_option maxRecDepth 100000
set_option maxHeartbeats 4000000
namespace K66
open PL M66
variable [PL.TabList]
theorem turn_mul {n s : Nat} (n1 : 1 ≤ n) : Turn n fun k => (k * s) % n where
  lt := fun k => Nat.mod_lt _ n1
  add := fun i j => by
    have h1 := Nat.mod_lt (i * s) n1
    have h2 := Nat.mod_lt (j * s) n1
    have e : ((i + j) * s) % n = ((i * s) % n + (j * s) % n) % n := by rw [Nat.add_mul, Nat.add_mod]
    show ((i + j) * s) % n = _ ∨ ((i + j) * s) % n + n = _
    rw [e]
    by_cases h : (i * s) % n + (j * s) % n < n
    · exact .inl (Nat.mod_eq_of_lt h)
    · refine .inr ?_
      rw [Nat.mod_eq_sub_mod (by omega), Nat.mod_eq_of_lt (by omega)]
      omega
theorem ord_dvd {n s k : Nat} (n1 : 1 ≤ n) : (k * s) % n = 0 ↔ n / Nat.gcd n s ∣ k := by
  have g0 : 0 < Nat.gcd n s := Nat.gcd_pos_of_pos_left _ n1
  have dn : Nat.gcd n s ∣ n := Nat.gcd_dvd_left n s
  have ds : Nat.gcd n s ∣ s := Nat.gcd_dvd_right n s
  have cp : Nat.Coprime (n / Nat.gcd n s) (s / Nat.gcd n s) := Nat.coprime_div_gcd_div_gcd g0
  constructor
  · intro h
    have h1 : n ∣ k * s := Nat.dvd_of_mod_eq_zero h
    refine cp.dvd_of_dvd_mul_right ?_
    obtain ⟨c, hc⟩ := h1
    refine ⟨c, Nat.eq_of_mul_eq_mul_right g0 ?_⟩
    calc k * (s / Nat.gcd n s) * Nat.gcd n s = k * (s / Nat.gcd n s * Nat.gcd n s) := Nat.mul_assoc _ _ _
      _ = k * s := by rw [Nat.div_mul_cancel ds]
      _ = n * c := hc
      _ = (n / Nat.gcd n s * Nat.gcd n s) * c := by rw [Nat.div_mul_cancel dn]
      _ = n / Nat.gcd n s * c * Nat.gcd n s := by rw [Nat.mul_assoc, Nat.mul_comm (Nat.gcd n s) c, ← Nat.mul_assoc]
  · rintro ⟨c, rfl⟩
    refine Nat.mod_eq_zero_of_dvd ⟨c * (s / Nat.gcd n s), ?_⟩
    calc n / Nat.gcd n s * c * s = n / Nat.gcd n s * c * (s / Nat.gcd n s * Nat.gcd n s) := by rw [Nat.div_mul_cancel ds]
      _ = (n / Nat.gcd n s * Nat.gcd n s) * (c * (s / Nat.gcd n s)) := by
        rw [Nat.mul_assoc, ← Nat.mul_assoc c, Nat.mul_comm (c * _) (Nat.gcd n s), ← Nat.mul_assoc]
      _ = n * (c * (s / Nat.gcd n s)) := by rw [Nat.div_mul_cancel dn]
theorem quo_pos {n s : Nat} (n1 : 1 ≤ n) : 1 ≤ n / Nat.gcd n s := Nat.div_pos (Nat.gcd_le_left _ n1) (Nat.gcd_pos_of_pos_left _ n1)
theorem ord_eq {n s u : Nat} (n1 : 1 ≤ n) (h : IsOrd n s u) : u = n / Nat.gcd n s := by
  obtain ⟨h1, h2, h3⟩ := h
  have hd := (ord_dvd n1).mp h2
  have hle := Nat.le_of_dvd h1 hd
  rcases Nat.lt_or_ge (n / Nat.gcd n s) u with z | z
  · exact absurd ((ord_dvd n1).mpr (Nat.dvd_refl _)) (h3 _ (quo_pos n1) z)
  · omega
theorem ne_zero {n s N k : Nat} (n1 : 1 ≤ n) (hN : N ≤ n / Nat.gcd n s) (k1 : 1 ≤ k) (k2 : k < N) : (k * s) % n ≠ 0 := fun z => by
  have := Nat.le_of_dvd k1 ((ord_dvd n1).mp z)
  omega
/-! ### three lengths -/
theorem three_of {ns : List Int} {al be : Int} (a0 : 0 < al) (b0 : 0 < be) (h : ∀ x ∈ ns, x = al ∨ x = be ∨ x = al + be) : Three (tl ns) := by
  have hl := keys_lt ns
  have hm : ∀ x ∈ keys ns, x = al ∨ x = be ∨ x = al + be := fun x hx => h x (mem_keys.mp hx)
  unfold tl
  generalize keys ns = l at hl hm
  match l, hl, hm with
  | [], _, _ => exact .inl (by simp)
  | [_], _, _ => exact .inl (by simp)
  | [_, _], _, _ => exact .inl (by simp)
  | [a, b, c], hl, hm =>
    refine .inr ⟨_, _, _, rfl, ?_⟩
    simp only [List.pairwise_cons, List.mem_cons, List.mem_nil_iff, or_false] at hl
    have h1 := hl.1 b (.inl rfl)
    have h2 := hl.1 c (.inr rfl)
    have h3 := hl.2.1 c rfl
    have m1 := hm a (by simp)
    have m2 := hm b (by simp)
    have m3 := hm c (by simp)
    show c = a + b
    omega
  | a :: b :: c :: d :: l, hl, hm =>
    exfalso
    simp only [List.pairwise_cons, List.mem_cons] at hl
    have h1 := hl.1 b (.inl rfl)
    have h2 := hl.2.1 c (.inl rfl)
    have h3 := hl.2.2.1 d (.inl rfl)
    have m1 := hm a (by simp)
    have m2 := hm b (by simp)
    have m3 := hm c (by simp)
    have m4 := hm d (by simp)
    omega
/-! ### times back -/
theorem cond_iff {n s L d k : Nat} (n1 : 1 ≤ n) (hd : d < L) (hL : L ≤ n) : (d + k * s) % n < L ↔ (d + (k * s) % n < L ∨ n ≤ d + (k * s) % n) := by
  have h := Nat.mod_lt (k * s) n1
  have e : (d + k * s) % n = (d + (k * s) % n) % n := by rw [Nat.add_mod_mod]
  rw [e]
  by_cases q : d + (k * s) % n < n
  · rw [Nat.mod_eq_of_lt q]
    omega
  · rw [Nat.mod_eq_sub_mod (by omega), Nat.mod_eq_of_lt (by omega)]
    omega
theorem rets {n s L : Nat} (n1 : 1 ≤ n) (L1 : 1 ≤ L) (L2 : L ≤ n) : ∃ a b : Nat, 1 ≤ a ∧ 1 ≤ b ∧ ∀ d, d < L → IsRet n s L d (ret n s L d) ∧ (ret n s L d = a ∨ ret n s L d = b ∨ ret n s L d = a + b) := by
  obtain ⟨a, b, a1, b1, h⟩ := back (turn_mul (s := s) n1) L1 L2 (Nat.mul_mod_right n s)
  refine ⟨a, b, a1, b1, fun d hd => ?_⟩
  obtain ⟨r, h1, h2, h3⟩ := h d hd
  have hr : IsRet n s L d r := by
    refine ⟨?_, (cond_iff n1 hd L2).mpr h2, fun k k1 k2 => ?_⟩
    · omega
    · exact Nat.le_of_not_lt fun z => h3 k k1 k2 ((cond_iff n1 hd L2).mp z)
  rw [ret_eq hr]
  exact ⟨hr, h1⟩
theorem ret_is {n s L d : Nat} (n1 : 1 ≤ n) (L2 : L ≤ n) (hd : d < L) : IsRet n s L d (ret n s L d) := by
  obtain ⟨a, b, _, _, h⟩ := rets (s := s) n1 (show 1 ≤ L by omega) L2
  exact (h d hd).1
theorem three_backs {n s L : Nat} (n1 : 1 ≤ n) (L1 : 1 ≤ L) (L2 : L ≤ n) : Three (tl (backsI n s L)) := by
  obtain ⟨a, b, a1, b1, h⟩ := rets (s := s) n1 L1 L2
  refine three_of (al := a) (be := b) (by omega) (by omega) fun x hx => ?_
  obtain ⟨d, hd, rfl⟩ := List.mem_map.mp hx
  have := (h d (List.mem_range.mp hd)).2
  omega
/-! ### gaps -/
theorem gaps_at {n : Nat} {ds : List Int} {x : Int} (hx : x ∈ gapsI n ds) : ∃ t y z, ds[t]? = some y ∧ x = z - y ∧ ((ds[t + 1]? = some z) ∨ (ds.length = t + 1 ∧ z = ds.headD 0 + n)) := by
  unfold gapsI at hx
  obtain ⟨p, hp, rfl⟩ := List.mem_map.mp hx
  obtain ⟨t, ht⟩ := List.mem_iff_getElem?.mp hp
  obtain ⟨h1, h2⟩ := List.getElem?_zip_eq_some.mp ht
  refine ⟨t, p.1, p.2, h1, rfl, ?_⟩
  have hl := (List.getElem?_eq_some_iff.mp h1).1
  by_cases c : t + 1 < ds.length
  · refine .inl ?_
    rw [List.getElem?_append_left (by rw [List.length_drop]; omega), List.getElem?_drop, Nat.add_comm] at h2
    exact h2
  · refine .inr ⟨by omega, ?_⟩
    rw [List.getElem?_append_right (by rw [List.length_drop]; omega), List.length_drop, show t - (ds.length - 1) = 0 by omega] at h2
    rw [List.getElem?_cons_zero] at h2
    exact (Option.some.inj h2).symm
theorem three_gaps {n s N : Nat} (n1 : 1 ≤ n) (N1 : 1 ≤ N) (hN : N ≤ n / Nat.gcd n s) {ds : List Int} (hs : ds.Pairwise (· < ·)) (hm : ∀ x, x ∈ ds ↔ ∃ i, i < N ∧ x = ((i * s % n : Nat) : Int)) (hl : ds.length = N) : Three (tl (gapsI n ds)) := by
  by_cases c : N = 1
  · have e : (gapsI n ds).length = 1 := by rw [gapsI_length (by omega), hl, c]
    have : (tl (gapsI n ds)).length ≤ 1 := by
      unfold tl
      rw [List.length_map, ← e]
      exact List.Nodup.length_le_of_subset (nodup_of_lt (keys_lt _)) fun x hx => mem_keys.mp hx
    exact .inl (by omega)
  obtain ⟨al, be, a0, b0, h⟩ := next (turn_mul (s := s) n1) (N := N) (by omega) (fun k => ne_zero n1 hN) (by show (0 * s) % n = 0; simp)
  refine three_of (al := al) (be := be) (by omega) (by omega) fun x hx => ?_
  obtain ⟨t, y, z, h1, rfl, h2⟩ := gaps_at hx
  have mono : ∀ {i j : Nat} {a b : Int}, i < j → ds[i]? = some a → ds[j]? = some b → a < b := fun {i j a b} q e1 e2 => by
    obtain ⟨l1, e1⟩ := List.getElem?_eq_some_iff.mp e1
    obtain ⟨l2, e2⟩ := List.getElem?_eq_some_iff.mp e2
    rw [← e1, ← e2]
    exact List.pairwise_iff_getElem.mp hs i j l1 l2 q
  obtain ⟨i, hi, ey⟩ := (hm y).mp (List.mem_of_getElem? h1)
  obtain ⟨g, j, hg, hj, hgj, hb⟩ := h i hi
  have hgj : (i * s) % n + g = (j * s) % n ∨ (i * s) % n + g = (j * s) % n + n := hgj
  have hb : ∀ m, m < N → ((i * s) % n < (m * s) % n → (i * s) % n + g ≤ (m * s) % n) ∧ ((m * s) % n < (i * s) % n → (i * s) % n + g ≤ (m * s) % n + n) := hb
  obtain ⟨k, hk⟩ := List.mem_iff_getElem?.mp ((hm _).mpr ⟨j, hj, rfl⟩)
  have lj := Nat.mod_lt (j * s) n1
  have g0 : 0 < g := by omega
  rcases h2 with h2 | ⟨h2, h3⟩
  · obtain ⟨m, hm1, em⟩ := (hm z).mp (List.mem_of_getElem? h2)
    have yz := mono (Nat.lt_succ_self t) h1 h2
    have b1 := (hb m hm1).1 (by omega)
    have lm := Nat.mod_lt (m * s) n1
    have fin : (z : Int) = ((i * s % n : Nat) : Int) + g := by
      rcases hgj with q | q
      · have tk : t + 1 ≤ k := by
          rcases Nat.lt_trichotomy k t with w | w | w
          · have := mono w hk h1
            omega
          · rw [w, h1] at hk
            cases hk
            omega
          · exact w
        rcases Nat.lt_or_ge (t + 1) k with w | w
        · have := mono w h2 hk
          omega
        · have w : k = t + 1 := by omega
          rw [w, h2] at hk
          cases hk
          omega
      · omega
    omega
  · have hd0 : ds[0]? = some (ds.headD 0) := by
      cases ds with
      | nil => cases h1
      | cons a l => rfl
    obtain ⟨m, hm1, em⟩ := (hm _).mp (List.mem_of_getElem? hd0)
    have t0 : 0 < t := by omega
    have y0 := mono t0 hd0 h1
    have b2 := (hb m hm1).2 (by omega)
    have kt : k ≤ t := by
      have := (List.getElem?_eq_some_iff.mp hk).1
      omega
    have jy : ((j * s % n : Nat) : Int) ≤ y := by
      rcases Nat.lt_or_ge k t with w | w
      · exact Int.le_of_lt (mono w hk h1)
      · have w : k = t := by omega
        rw [w, h1] at hk
        cases hk
        omega
    have dj : ds.headD 0 ≤ ((j * s % n : Nat) : Int) := by
      rcases Nat.eq_zero_or_pos k with w | w
      · rw [w, hd0] at hk
        exact Int.le_of_eq (Option.some.inj hk)
      · exact Int.le_of_lt (mono w hd0 hk)
    omega
end K66
end
section
set_option Elab.async false
set_option linter.all false
set_option maxRecDepth 100000
set_option maxHeartbeats 4000000
namespace K66
open PL M66
variable [PL.TabList]
/-! ### sums -/
theorem sum_add {α : Type} (f g : α → Int) : ∀ l : List α, (l.map fun x => f x + g x).sum = (l.map f).sum + (l.map g).sum
  | [] => by simp
  | x :: l => by
    simp only [List.map_cons, List.sum_cons]
    rw [sum_add f g l]
    omega
theorem sum_zero {α : Type} : ∀ l : List α, (l.map fun _ => (0 : Int)).sum = 0
  | [] => rfl
  | x :: l => by
    simp only [List.map_cons, List.sum_cons]
    rw [sum_zero l]
    rfl
theorem sum_delta (h : Int → Int) (n : Int) : ∀ ks : List Int, ks.Nodup → (ks.map fun k => if n = k then h k else 0).sum = if n ∈ ks then h n else 0
  | [], _ => rfl
  | k :: ks, hd => by
    have hd := List.nodup_cons.mp hd
    simp only [List.map_cons, List.sum_cons]
    rw [sum_delta h n ks hd.2]
    by_cases e : n = k
    · subst e
      rw [if_pos rfl, if_neg hd.1, if_pos List.mem_cons_self, Int.add_zero]
    · rw [if_neg e, Int.zero_add]
      by_cases m : n ∈ ks
      · rw [if_pos m, if_pos (List.mem_cons_of_mem _ m)]
      · rw [if_neg m, if_neg fun q => by rcases List.mem_cons.mp q with q | q; exact e q; exact m q]
theorem sum_keys (h : Int → Int) (ks : List Int) (hd : ks.Nodup) : ∀ ns : List Int, (∀ x ∈ ns, x ∈ ks) → (ks.map fun k => h k * (ns.count k : Int)).sum = (ns.map h).sum
  | [], _ => by
    have e : (ks.map fun k => h k * (([] : List Int).count k : Int)) = ks.map fun _ => 0 := List.map_congr_left fun k _ => by simp
    rw [e, sum_zero]
    rfl
  | n :: ns, hs => by
    have e : (ks.map fun k => h k * ((n :: ns).count k : Int)) = ks.map fun k => h k * (ns.count k : Int) + (if n = k then h k else 0) := List.map_congr_left fun k _ => by
      rw [List.count_cons]
      by_cases q : n = k
      · subst q
        simp [Int.mul_add]
      · have : (n == k) = false := by simp [q]
        simp [this, q]
    rw [e, sum_add, sum_keys h ks hd ns fun x hx => hs x (List.mem_cons_of_mem _ hx), sum_delta h n ks hd, if_pos (hs n List.mem_cons_self)]
    simp only [List.map_cons, List.sum_cons]
    omega
theorem sum_tl (ns : List Int) : ((tl ns).map fun p => p.1 * p.2).sum = ns.sum := by
  unfold tl
  rw [List.map_map]
  have := sum_keys (fun k => k) (keys ns) (nodup_of_lt (keys_lt ns)) ns fun x hx => mem_keys.mpr hx
  rw [List.map_id'] at this
  exact this
theorem cnt_tl (ns : List Int) : ((tl ns).map fun p => p.2).sum = ns.length := by
  unfold tl
  rw [List.map_map]
  have := sum_keys (fun _ => 1) (keys ns) (nodup_of_lt (keys_lt ns)) ns fun x hx => mem_keys.mpr hx
  have e : (ns.map fun _ => (1 : Int)).sum = ns.length := by
    clear this
    induction ns with
    | nil => rfl
    | cons n ns ih =>
      simp only [List.map_cons, List.sum_cons, List.length_cons]
      rw [ih]
      omega
  rw [e] at this
  rw [← this]
  congr 1
  refine List.map_congr_left fun k _ => ?_
  show (ns.count k : Int) = 1 * (ns.count k : Int)
  omega
theorem tel : ∀ (l : List Int) (a z : Int), (((a :: l).zip (l ++ [z])).map fun p => p.2 - p.1).sum = z - a
  | [], a, z => by simp
  | b :: l, a, z => by
    rw [List.cons_append, List.zip_cons_cons, List.map_cons, List.sum_cons, tel l b z]
    show b - a + (z - b) = z - a
    omega
theorem sum_gaps {n : Nat} {ds : List Int} (h : 1 ≤ ds.length) : (gapsI n ds).sum = n := by
  unfold gapsI
  cases ds with
  | nil => cases h
  | cons a l =>
    show (((a :: l).zip (l ++ [a + (n : Int)])).map fun p => p.2 - p.1).sum = n
    rw [tel]
    omega
theorem tl_length (ns : List Int) : (tl ns).length ≤ ns.length := by
  unfold tl
  rw [List.length_map]
  exact List.Nodup.length_le_of_subset (nodup_of_lt (keys_lt ns)) fun x hx => mem_keys.mp hx
theorem tl_snd {ns : List Int} {p : Int × Int} (h : p ∈ tl ns) : ∃ c : Nat, p.2 = c ∧ c ≤ ns.length := by
  unfold tl at h
  obtain ⟨k, _, rfl⟩ := List.mem_map.mp h
  exact ⟨ns.count k, rfl, List.count_le_length⟩
/-! ### the dots -/
theorem dot_cast {n s t : Nat} : (s : Int) * (t : Int) % (n : Int) = ((t * s % n : Nat) : Int) := by
  rw [Int.natCast_emod, Int.natCast_mul, Int.mul_comm]
theorem dots_mem {n s m : Nat} (x : Int) : x ∈ dotsI n s m ↔ ∃ i, i < m ∧ x = ((i * s % n : Nat) : Int) := by
  unfold dotsI
  rw [mem_srt, List.mem_map]
  constructor
  · rintro ⟨t, ht, rfl⟩
    exact ⟨t, List.mem_range.mp ht, dot_cast⟩
  · rintro ⟨t, ht, rfl⟩
    exact ⟨t, List.mem_range.mpr ht, dot_cast⟩
theorem dots_lt {n s m : Nat} (n1 : 1 ≤ n) (hm : m ≤ n / Nat.gcd n s) : (dotsI n s m).Pairwise (· < ·) := by
  have nd : (dotsI n s m).Nodup := by
    unfold dotsI
    rw [(srt_perm _).nodup_iff]
    unfold List.Nodup
    rw [List.pairwise_map]
    refine List.Pairwise.imp_of_mem (fun {a b} ha hb h => ?_) List.pairwise_lt_range
    have hb := List.mem_range.mp hb
    have h : a < b := h
    intro e
    rw [dot_cast, dot_cast] at e
    have z := ne_zero (s := s) n1 hm (k := b - a) (by omega) (by omega)
    have T := (turn_mul (s := s) n1).sub (Nat.le_of_lt h)
    have T : (b * s) % n = ((b - a) * s) % n + (a * s) % n ∨ (b * s) % n + n = ((b - a) * s) % n + (a * s) % n := T
    have := Nat.mod_lt ((b - a) * s) n1
    omega
  have hs : (dotsI n s m).Pairwise (· ≤ ·) := by unfold dotsI; exact srt_le _
  exact (List.Pairwise.and nd hs).imp fun {a b} h => by
    have h1 : a ≠ b := h.1
    have h2 : a ≤ b := h.2
    omega
theorem gaps_three {n s m : Nat} (n1 : 1 ≤ n) (m1 : 1 ≤ m) (hm : m ≤ n / Nat.gcd n s) : Three (tl (gapsI n (dotsI n s m))) :=
  three_gaps (s := s) n1 m1 hm (dots_lt n1 hm) (fun x => dots_mem x) dotsI_length
/-! ### what is met -/
/-- met, when the dots below i are done, and k - 1 steps from i -/
def Met (n s L i k : Nat) (y : Nat) : Prop := y < L ∨ (∃ d j, d < i ∧ 1 ≤ j ∧ j < ret n s L d ∧ y = (d + j * s) % n) ∨ ∃ j, 1 ≤ j ∧ j < k ∧ y = (i + j * s) % n
theorem sub_turn {n s a b j k : Nat} (n1 : 1 ≤ n) (hb : b < n) (h : j ≤ k) (e : (a + k * s) % n = (b + j * s) % n) : (a + (k - j) * s) % n = b := by
  have e1 : a + k * s = (a + (k - j) * s) + j * s := by
    rw [Nat.add_assoc, ← Nat.add_mul, Nat.sub_add_cancel h]
  rw [e1] at e
  have e2 : (a + (k - j) * s) % n = b % n := by
    have h1 := Nat.mod_lt (a + (k - j) * s) n1
    have h2 := Nat.mod_lt b n1
    have h3 := Nat.mod_lt (j * s) n1
    rw [Nat.add_mod, Nat.add_mod b] at e
    generalize (a + (k - j) * s) % n = x at *
    generalize b % n = y at *
    generalize j * s % n = z at *
    by_cases c1 : x + z < n <;> by_cases c2 : y + z < n
    · rw [Nat.mod_eq_of_lt c1, Nat.mod_eq_of_lt c2] at e; omega
    · rw [Nat.mod_eq_of_lt c1, Nat.mod_eq_sub_mod (by omega), Nat.mod_eq_of_lt (by omega)] at e; omega
    · rw [Nat.mod_eq_of_lt c2, Nat.mod_eq_sub_mod (by omega), Nat.mod_eq_of_lt (by omega)] at e; omega
    · rw [Nat.mod_eq_sub_mod (by omega), Nat.mod_eq_of_lt (by omega), Nat.mod_eq_sub_mod (show n ≤ y + z by omega), Nat.mod_eq_of_lt (by omega)] at e; omega
  rw [e2]
  exact Nat.mod_eq_of_lt hb
theorem met_iff {n s L i k : Nat} (n1 : 1 ≤ n) (L2 : L ≤ n) (hi : i < L) (k1 : 1 ≤ k) (hk : k ≤ ret n s L i) : Met n s L i k ((i + k * s) % n) ↔ k = ret n s L i := by
  have R := ret_is (s := s) n1 L2 hi
  constructor
  · rintro (h | ⟨d, j, d1, j1, j2, e⟩ | ⟨j, j1, j2, e⟩)
    · rcases Nat.lt_or_ge k (ret n s L i) with z | z
      · have := R.2.2 k k1 z
        omega
      · omega
    · exfalso
      have Rd := ret_is (s := s) n1 L2 (show d < L by omega)
      rcases Nat.lt_trichotomy k j with z | z | z
      · have q := sub_turn n1 (show i < n by omega) (Nat.le_of_lt z) e.symm
        have := Rd.2.2 (j - k) (by omega) (by omega)
        omega
      · rw [z] at e
        have q := sub_turn n1 (show d < n by omega) (Nat.le_refl j) e
        rw [Nat.sub_self, Nat.zero_mul, Nat.add_zero, Nat.mod_eq_of_lt (by omega)] at q
        omega
      · have q := sub_turn n1 (show d < n by omega) (Nat.le_of_lt z) e
        have := R.2.2 (k - j) (by omega) (by omega)
        omega
    · exfalso
      have q := sub_turn n1 (show i < n by omega) (Nat.le_of_lt j2) e
      have := R.2.2 (k - j) (by omega) (by omega)
      omega
  · intro h
    rw [h]
    exact .inl R.2.1
end K66
end
section
set_option Elab.async false
set_option linter.all false
set_option maxRecDepth 100000
set_option maxHeartbeats 4000000
namespace K66
open PySem PySem.Spec PyProof.Rows L2 PL
variable [PL.TabList]
abbrev st__law_are_told_right : Stmt := top 32
theorem S__law_are_told_right : FnScope ["size", "step", "many", "length", "gaps", "backs", "dots", "met", "dot", "here", "steps", "often", "wide"] ["size", "step", "many", "length"] (defScope st__law_are_told_right) := ⟨rfl, rfl, rfl, by decide +kernel, rfl, by decide +kernel, by decide +kernel⟩
abbrev At__law_are_told_right (K : PySem.W.Frag) (mg : Str → Option Value) := FnAt K mg "_law_are_told_right" "_law_are_told_right" st__law_are_told_right ["size", "step", "many", "length"]
def sp_right : SPEC := fun xs Q _ => ∃ n s m L : Nat, xs = [.int n, .int s, .int m, .int L] ∧ 1 ≤ n ∧ n ≤ 1000 ∧ s < n ∧ 1 ≤ m ∧ m ≤ n / Nat.gcd n s ∧ 1 ≤ L ∧ L ≤ n ∧ Q (.bl true)
theorem btw_n {lo hi i : Nat} (h1 : lo ≤ i) (h2 : i ≤ hi) : btw (.int i) lo hi = true := by
  show (decide ((lo : Int) ≤ i) && decide ((i : Int) ≤ hi)) = true
  rw [decide_eq_true (by omega), decide_eq_true (by omega)]
  rfl
theorem turnOk_n {n s : Nat} (n1 : 1 ≤ n) (n2 : n ≤ 1000) (n3 : s < n) : turnOk (.int n) (.int s) = true := by
  unfold turnOk
  rw [Bool.and_eq_true]
  refine ⟨btw_n n1 n2, ?_⟩
  show (decide ((0 : Int) ≤ s) && decide ((s : Int) ≤ (n : Int) - 1)) = true
  rw [decide_eq_true (by omega), decide_eq_true (by omega)]
  rfl
theorem int_inj {a b : Nat} (h : D.int (a : Int) = D.int (b : Int)) : b = a := by
  have h := D.int.inj h
  omega
theorem spg_of {C : Addr} {n s m : Nat} {Q : D → Prop} {E : Err → Prop} (n1 : 1 ≤ n) (n2 : n ≤ 1000) (n3 : s < n) (m1 : 1 ≤ m) (m2 : m ≤ n / Nat.gcd n s) (q : Q (.tup ((tl (gapsI n (dotsI n s m))).map PL.pairD))) : sp_turn_gaps C [.int n, .int s, .int m] Q E := by
  refine ⟨_, _, _, _, _, _, rfl, rfl, rfl, rfl, fun h => ?_, fun n' s' _ _ _ e1 e2 => ?_⟩
  · rw [turnOk_n n1 n2 n3] at h
    cases h
  · cases int_inj e1
    cases int_inj e2
    refine ⟨fun h => ?_, fun m' _ _ e3 _ => ?_⟩
    · exact absurd (show btw _ 1 _ = true from btw_n (lo := 1) m1 m2) (by rw [h]; exact Bool.false_ne_true)
    · cases int_inj e3
      exact q
theorem spb_of {C : Addr} {n s L : Nat} {Q : D → Prop} {E : Err → Prop} (n1 : 1 ≤ n) (n2 : n ≤ 1000) (n3 : s < n) (m1 : 1 ≤ L) (m2 : L ≤ n) (q : Q (.tup ((tl (backsI n s L)).map PL.pairD))) : sp_turn_backs C [.int n, .int s, .int L] Q E := by
  refine ⟨_, _, _, _, _, _, rfl, rfl, rfl, rfl, fun h => ?_, fun n' s' _ _ _ e1 e2 => ?_⟩
  · rw [turnOk_n n1 n2 n3] at h
    cases h
  · cases int_inj e1
    cases int_inj e2
    refine ⟨fun h => ?_, fun m' _ _ e3 => ?_⟩
    · exact absurd (show btw _ 1 _ = true from btw_n (lo := 1) m1 m2) (by rw [h]; exact Bool.false_ne_true)
    · cases int_inj e3
      exact q
theorem pls_pairs (k : Nat) : ∀ ps : List (Int × Int), isPls (k + 1) (ps.map PL.pairD) = true
  | [] => by cases k <;> rfl
  | p :: ps => by
    rw [List.map_cons]
    unfold isPls
    rw [pls_pairs k ps]
    show (isPl (k + 1) (.tup [.int p.1, .int p.2]) && true) = true
    unfold isPl isPls isPls isPls
    cases k <;> rfl
theorem pl_pairs {ps : List (Int × Int)} (h : ps.length ≤ 1000000) : isPl 2 (.tup (ps.map PL.pairD)) = true := by
  show (decide ((ps.map PL.pairD).length ≤ 1000000) && isPls 1 (ps.map PL.pairD)) = true
  rw [pls_pairs, List.length_map, decide_eq_true h]
  rfl
theorem pl_two {a b : D} (ha : isPl 2 a = true) (hb : isPl 2 b = true) : isPl 3 (.lst [a, b]) = true := by
  show (decide (2 ≤ 1000000) && (isPl 2 a && (isPl 2 b && isPls 2 []))) = true
  rw [ha, hb]
  rfl
theorem neI_self {a b : Int} (h : a = b) : (!eqD (.int a) (.int b)) = false := by rw [h, eqI_self]; rfl
theorem backsI_length {n s L : Nat} : (backsI n s L).length = L := by unfold backsI; simp
theorem val_some {ks : List Int} {x : Int} : (valG (kvF (fun _ => D.bl true) ks) (.inl x)).isSome = decide (x ∈ ks) := by
  rw [valG_kvF]
  by_cases h : x ∈ ks
  · rw [if_pos h, decide_eq_true h]; rfl
  · rw [if_neg h, decide_eq_false h]; rfl
theorem sum_ret {n s L : Nat} (n1 : 1 ≤ n) (L2 : L ≤ n) : ∀ i, i ≤ L → ((List.range i).map fun d => (ret n s L d : Int)).sum = ((i + ((List.range i).map fun d => ret n s L d - 1).sum : Nat) : Int)
  | 0, _ => rfl
  | i + 1, h => by
    have r1 := (ret_is (s := s) n1 L2 (show i < L by omega)).1
    rw [List.range_succ, List.map_append, List.map_append, List.sum_append, List.sum_append, sum_ret n1 L2 i (by omega)]
    simp only [List.map_cons, List.map_nil, List.sum_cons, List.sum_nil]
    omega
section
variable {P : Program} {w : World} {K : PySem.W.Frag} {mg : Str → Option Value} {base : Heap}
theorem ok_right (T : Txt K mg) (A : At__law_are_told_right K mg) {A1 : At_turn_gaps K mg} (F_turn_gaps : FnSp P w K mg base A1 4 (sp_turn_gaps T.a_NoNumber)) {A2 : At_turn_backs K mg} (F_turn_backs : FnSp P w K mg base A2 4 (sp_turn_backs T.a_NoNumber))
    {A3 : At__law_dots K mg} (F__law_dots : FnSp P w K mg base A3 1 sp_dots) {A4 : At__law_is K mg} (F__law_is : FnSp P w K mg base A4 4 (sp_isN 4)) {A5 : At__law_gaps K mg} (F__law_gaps : FnSp P w K mg base A5 2 sp_gaps) {A6 : At__law_backs K mg} (F__law_backs : FnSp P w K mg base A6 2 sp_backs)
    {A7 : At__law_are_three K mg} (F__law_are_three : FnSp P w K mg base A7 1 sp_are_three) : FnSp P w K mg base A 5 sp_right := by
  refine fnS A S__law_are_told_right (fun xs Q E h => ?_) (fun cdv Ar outer s H E hr => (dss_cons (ds_par 4 5 (de_fn F_turn_gaps (hr.mono (by decide)) tkX (da_cons (de_var 0) (da_cons (de_var 1) (da_cons (de_var 2) da_nil)))) (de_fn F_turn_backs (hr.mono (by decide)) tkX (da_cons (de_var 0) (da_cons (de_var 1) (da_cons (de_var 3) da_nil)))) S__law_are_told_right.nd)
    (dss_cons (ds_set 6 S__law_are_told_right.nd (de_fn F__law_dots (hr.mono (by decide)) tkX (da_cons (de_var 0) (da_cons (de_var 1) (da_cons (de_var 2) da_nil)))))
    (dss_cons (ds_if (dt_not (dt_b (m := false) (de_fn F__law_is (hr.mono (by decide)) tkX (da_cons (df_lst (da_cons (de_var 4) (da_cons (de_var 5) da_nil))).d (da_cons (df_lst (da_cons (de_fn F__law_gaps (hr.mono (by decide)) tkX (da_cons (de_var 0) (da_cons (de_var 6) da_nil))) (da_cons (de_fn F__law_backs (hr.mono (by decide)) tkX (da_cons (de_var 0) (da_cons (de_var 1) (da_cons (de_var 3) da_nil)))) da_nil))).d da_nil))))) (dss_one (ds_ret de_bl)) dss_nil)
    (dss_cons (ds_if (dw_or (dt_not (dt_b (m := false) (de_fn F__law_are_three (hr.mono (by decide)) tkX (da_cons (de_var 4) da_nil)))) (dw_or1 (dt_not (dt_b (m := false) (de_fn F__law_are_three (hr.mono (by decide)) tkX (da_cons (de_var 5) da_nil)))))).t (dss_one (ds_ret de_bl)) dss_nil)
    (dss_cons (ds_if (dw_or (dt_ne (m1 := false) (m2 := false) hr (de_sum (m1 := false) (da_cons (df_lc S__law_are_told_right.nd (di_seq (de_var 4)) (own := [("wide", 12), ("often", 11)]) (blkOk_by (N := ["size", "step", "many", "length", "gaps", "backs", "dots", "met", "dot", "here", "steps", "often", "wide"]) (sc := defScope st__law_are_told_right) (by decide +kernel)) (fun _ _ _ _ _ => (dg_tupK K 2 (dgs_cons (dg_name 12 S__law_are_told_right.nd) (dgs_cons (dg_name 11 S__law_are_told_right.nd) dgs_nil)))) (by decide) (fun _ _ _ _ _ => dts_nil) (fun _ _ _ _ _ => (de_mul (de_var 12) (de_var 11)))).d da_nil) T.z_sum bt_sum) (de_var 0)) (dw_or1 (dt_ne (m1 := false) (m2 := false) hr (de_sum (m1 := false) (da_cons (df_lc S__law_are_told_right.nd (di_seq (de_var 4)) (own := [("wide", 12), ("often", 11)]) (blkOk_by (N := ["size", "step", "many", "length", "gaps", "backs", "dots", "met", "dot", "here", "steps", "often", "wide"]) (sc := defScope st__law_are_told_right) (by decide +kernel)) (fun _ _ _ _ _ => (dg_tupK K 2 (dgs_cons (dg_name 12 S__law_are_told_right.nd) (dgs_cons (dg_name 11 S__law_are_told_right.nd) dgs_nil)))) (by decide) (fun _ _ _ _ _ => dts_nil) (fun _ _ _ _ _ => (de_var 11))).d da_nil) T.z_sum bt_sum) (de_var 2)))).t (dss_one (ds_ret de_bl)) dss_nil)
    (dss_cons (ds_own 7 S__law_are_told_right.nd (df_dict (m1 := false) (da_cons (df_lc S__law_are_told_right.nd (di_range1 (m := false) T.z_range (da_cons (de_var 3) da_nil)) (own := [("dot", 8)]) (blkOk_by (N := ["size", "step", "many", "length", "gaps", "backs", "dots", "met", "dot", "here", "steps", "often", "wide"]) (sc := defScope st__law_are_told_right) (by decide +kernel)) (fun _ _ _ _ _ => (dg_name 8 S__law_are_told_right.nd)) (by decide) (fun _ _ _ _ _ => dts_nil) (fun _ _ _ _ _ => (de_tup (da_cons (de_var 8) (da_cons de_bl da_nil))))).d da_nil) T.z_dict bt_dict))
    (dss_cons (ds_for hpX (di_range1 (m := false) T.z_range (da_cons (de_var 3) da_nil)) (dg_name 8 S__law_are_told_right.nd) (dss_cons (ds_set 9 S__law_are_told_right.nd (de_mod (de_intc (m1 := false) (da_cons (de_add (de_var 8) (de_var 1)) da_nil) T.z_int bt_int) (de_var 0)))
    (dss_one (ds_while hpX (dt_dnotin (m1 := false) (m2 := false) hr (de_var 9) (dt_own 7)) (dss_cons (ds_put (m := false) 7 hr de_bl (de_var 9))
    (dss_one (ds_set 9 S__law_are_told_right.nd (de_mod (de_intc (m1 := false) (da_cons (de_add (de_var 9) (de_var 1)) da_nil) T.z_int bt_int) (de_var 0)))))))))
    (dss_one (ds_ret (de_eq (m1 := false) (m2 := false) hr (de_sum (m1 := false) (da_cons (df_lc S__law_are_told_right.nd (di_seq (de_var 5)) (own := [("steps", 10), ("often", 11)]) (blkOk_by (N := ["size", "step", "many", "length", "gaps", "backs", "dots", "met", "dot", "here", "steps", "often", "wide"]) (sc := defScope st__law_are_told_right) (by decide +kernel)) (fun _ _ _ _ _ => (dg_tupK K 2 (dgs_cons (dg_name 10 S__law_are_told_right.nd) (dgs_cons (dg_name 11 S__law_are_told_right.nd) dgs_nil)))) (by decide) (fun _ _ _ _ _ => dts_nil) (fun _ _ _ _ _ => (de_mul (de_var 10) (de_var 11)))).d da_nil) T.z_sum bt_sum) (de_len (m1 := false) (da_cons (dt_own 7) da_nil) T.z_len bt_len)))))))))))) (fun xs Q E h => ?_)
  · obtain ⟨n, s, m, L, rfl, _⟩ := h
    rfl
  · obtain ⟨n, s, m, L, rfl, n1, n2, n3, m1, m2, L1, L2, hq⟩ := h
    have mn : m ≤ n := Nat.le_trans m2 (Nat.div_le_self _ _)
    have lg : (gapsI n (dotsI n s m)).length = m := by rw [gapsI_length (by rw [dotsI_length]; exact m1), dotsI_length]
    have tg := tl_length (gapsI n (dotsI n s m))
    have tb := tl_length (backsI n s L)
    rw [lg] at tg
    rw [backsI_length] at tb
    refine seq_of (parV_of (.tup ((tl (gapsI n (dotsI n s m))).map PL.pairD)) (.tup ((tl (backsI n s L)).map PL.pairD)) (fun Q E q => spg_of n1 n2 n3 m1 m2 q) (fun Q E q => spb_of n1 n2 n3 L1 L2 q) ?_)
    dsimp only
    refine seq_of (set_of (.lst (((List.range m).map fun (t : Nat) => (s : Int) * (t : Int) % (n : Int)).map D.int)) (fun Q E q => ⟨n, s, m, rfl, n1, by omega, by omega, ?_⟩) ?_)
    · have e : ((List.range m).map fun (t : Nat) => D.int ((t : Int) * (s : Int) % (n : Int))) = ((List.range m).map fun (t : Nat) => (s : Int) * (t : Int) % (n : Int)).map D.int := by
        rw [List.map_map]
        refine List.map_congr_left fun t _ => ?_
        show D.int _ = D.int _
        rw [Int.mul_comm]
      rw [e]
      exact q
    dsimp only
    refine seq_of (if_of false (fun Q E q => ?_) (fun h => nomatch h) (fun _ => ?_))
    · refine ⟨by show 2 ≤ 1000000; decide, n, _, rfl, by simp; omega, by simp; omega, n, s, L, rfl, n1, n2, n3, L1, L2, by show 2 ≤ 1000000; decide, _, rfl, pl_two (pl_pairs (by omega)) (pl_pairs (by omega)), q⟩
    dsimp only [wNext]
    refine seq_of (if_of false (fun Q E q => ?_) (fun h => nomatch h) (fun _ => ?_))
    · exact tor_of false false (fun Q E q => ⟨_, rfl, by omega, gaps_three n1 m1 m2, q⟩) (fun _ Q E q => ⟨_, rfl, by omega, three_backs n1 L1 L2, q⟩) q
    dsimp only [wNext]
    refine seq_of (if_of false (fun Q E q => ?_) (fun h => nomatch h) (fun _ => ?_))
    · refine tor_of false false (fun Q E q => ?_) (fun _ Q E q => ?_) q
      · refine ⟨rfl, lc_map PL.pairD (fun p => D.int (p.1 * p.2)) _ (fun p hp => ⟨_, rfl, fun Q E q => ⟨?_, q⟩⟩) (by show _ ≤ 1000000; omega) ⟨(tl (gapsI n (dotsI n s m))).map fun p => p.1 * p.2, by rw [List.map_map]; rfl, rfl, rfl, Nat.zero_le _, qe (Q := Q) (neI_self ?_) q⟩⟩
        · obtain ⟨c, e, hc⟩ := tl_snd hp
          rw [lg] at hc
          rw [e]
          exact cm_r (by omega) (by omega)
        · rw [sum_tl, sum_gaps (by rw [dotsI_length]; exact m1)]
      · refine ⟨rfl, lc_map PL.pairD (fun p => D.int p.2) _ (fun p hp => ⟨_, rfl, fun Q E q => q⟩) (by show _ ≤ 1000000; omega) ⟨(tl (gapsI n (dotsI n s m))).map fun p => p.2, by rw [List.map_map]; rfl, rfl, rfl, Nat.zero_le _, qe (Q := Q) (neI_self ?_) q⟩⟩
        rw [cnt_tl, lg]
    dsimp only [wNext]
    obtain ⟨ks0, e1, e2, e3⟩ := merge_kvF (F := fun _ => D.bl true) ((List.range L).map fun (i : Nat) => (i : Int)) [] List.nodup_nil
    refine seq_of (own_of (.dK (kvF (fun _ => D.bl true) ks0)) (fun Q E q => ?_) ?_)
    · refine ⟨rfl, by omega, by omega, ?_⟩
      rw [rng_nat]
      refine lc_map (fun (i : Nat) => D.int (i : Int)) (fun (i : Nat) => D.tup [.int (i : Int), .bl true]) _ (fun i hi => ⟨_, rfl, fun Q E q => ⟨by show 2 ≤ 1000000; decide, q⟩⟩) (by rw [List.length_range]; show L ≤ 1000000; omega) ?_
      refine ⟨((List.range L).map fun (i : Nat) => (i : Int)).map fun k => (.inl k, .bl true), by rw [List.map_map, List.map_map]; rfl, ?_⟩
      have e4 : mergeD [] (((List.range L).map fun (i : Nat) => (i : Int)).map fun k => ((.inl k, .bl true) : Key × D)) = kvF (fun _ => .bl true) ks0 := e1
      rw [e4]
      exact q
    have m0 : ∀ x : Int, x ∈ ks0 ↔ ∃ y : Nat, x = y ∧ Met n s L 0 1 y := fun x => by
      rw [e3]
      constructor
      · rintro (h | h)
        · cases h
        · obtain ⟨y, hy, rfl⟩ := List.mem_map.mp h
          exact ⟨y, rfl, .inl (List.mem_range.mp hy)⟩
      · rintro ⟨y, rfl, h | ⟨d, j, h, _⟩ | ⟨j, h1, h2, _⟩⟩
        · exact .inr (List.mem_map.mpr ⟨y, List.mem_range.mpr h, rfl⟩)
        · omega
        · omega
    have l0 : ks0.length = L := by
      have p : ks0.Perm ((List.range L).map fun (i : Nat) => (i : Int)) := by
        refine (List.perm_ext_iff_of_nodup e2 ?_).mpr fun x => by rw [e3]; simp
        unfold List.Nodup
        rw [List.pairwise_map]
        exact List.pairwise_lt_range.imp fun {a b} h => by omega
      rw [p.length_eq]
      simp
    let gD : D := .tup ((tl (gapsI n (dotsI n s m))).map PL.pairD)
    let bD : D := .tup ((tl (backsI n s L)).map PL.pairD)
    let dD : D := .lst (((List.range m).map fun (t : Nat) => (s : Int) * (t : Int) % (n : Int)).map D.int)
    dsimp only
    refine ⟨by omega, by omega, ?_⟩
    rw [rng_nat]
    refine for_of _ (fun done ρ => ∃ (i : Nat) (ks : List Int) (v8 v9 : Option S), done = (List.range i).map (fun (i : Nat) => D.int (i : Int)) ∧ i ≤ L ∧ ks.Nodup ∧ (∀ x : Int, x ∈ ks ↔ ∃ y : Nat, x = y ∧ Met n s L i 1 y) ∧
      ks.length = L + ((List.range i).map fun d => ret n s L d - 1).sum ∧ ρ = [some (.d (.int n)), some (.d (.int s)), some (.d (.int m)), some (.d (.int L)), some (.d gD), some (.d bD), some (.d dD), some (.own (.dK (kvF (fun _ => .bl true) ks))), v8, v9, none, none, none]) ⟨0, ks0, none, none, rfl, Nat.zero_le _, e2, m0, l0, rfl⟩ ?_ ?_
    · rintro done x rest ρ e ⟨i, ks, v8, v9, rfl, hi, hd, hm, hl, rfl⟩ N hN
      have hiL : i < L := by
        have q := congrArg List.length e
        simp at q
        omega
      obtain rfl : x = .int (i : Int) := by
        have q := congrArg (fun l => l[i]?) e
        simp only [List.getElem?_map] at q
        rw [List.getElem?_range hiL, List.getElem?_append_right (by simp)] at q
        simp at q
        exact q.symm
      have R := ret_is (s := s) n1 L2 hiL
      have rn : ret n s L i ≤ n := by
        rcases Nat.lt_or_ge n (ret n s L i) with z | z
        · have := R.2.2 n n1 z
          have := ret_top (s := s) hiL L2
          omega
        · exact z
      have sl : ((List.range i).map fun d => ret n s L d - 1).sum ≤ i * (n - 1) := by
        have key : ∀ l : List Nat, (∀ d ∈ l, d < L) → (l.map fun d => ret n s L d - 1).sum ≤ l.length * (n - 1) := by
          intro l
          induction l with
          | nil => intro _; simp
          | cons d l ih =>
            intro h
            have h2 := ih fun d hd => h d (List.mem_cons_of_mem _ hd)
            have hdL := h d List.mem_cons_self
            have Rd := ret_is (s := s) n1 L2 hdL
            have rd : ret n s L d ≤ n := by
              rcases Nat.lt_or_ge n (ret n s L d) with z | z
              · have := Rd.2.2 n n1 z
                have := ret_top (s := s) hdL L2
                omega
              · exact z
            simp only [List.map_cons, List.sum_cons, List.length_cons]
            rw [Nat.succ_mul]
            omega
        have := key (List.range i) fun d hd => by have := List.mem_range.mp hd; omega
        rwa [List.length_range] at this
      have sl2 : i * (n - 1) ≤ 999 * 999 := Nat.mul_le_mul (by omega) (by omega)
      have e1 : ((i : Int) + (s : Int)) % (n : Int) = (((i + 1 * s) % n : Nat) : Int) := by
        rw [Int.natCast_emod, Nat.one_mul]
        rfl
      refine ⟨_, rfl, seq_of (set_of (.int (((i + 1 * s) % n : Nat) : Int)) (fun Q E q => ⟨by omega, by rw [← e1] at q; exact q⟩) ?_)⟩
      dsimp only
      refine while_of (fun k ρ => ∃ (t : Nat) (ks : List Int), 1 ≤ t ∧ t ≤ ret n s L i ∧ k = ret n s L i - t ∧ ks.Nodup ∧ (∀ x : Int, x ∈ ks ↔ ∃ y : Nat, x = y ∧ Met n s L i t y) ∧ ks.length = L + ((List.range i).map fun d => ret n s L d - 1).sum + (t - 1) ∧
        ρ = [some (.d (.int n)), some (.d (.int s)), some (.d (.int m)), some (.d (.int L)), some (.d gD), some (.d bD), some (.d dD), some (.own (.dK (kvF (fun _ => .bl true) ks))), some (.d (.int (i : Int))), some (.d (.int (((i + t * s) % n : Nat) : Int))), none, none, none]) (ret n s L i - 1)
        ⟨1, ks, Nat.le_refl _, R.1, rfl, hd, hm, hl, rfl⟩ ?_
      rintro k ρ ⟨t, ks, t1, t2, rfl, hd, hm, hl, rfl⟩
      have hin : (((i + t * s) % n : Nat) : Int) ∈ ks ↔ t = ret n s L i := by
        rw [hm, ← met_iff (s := s) n1 L2 hiL t1 t2]
        constructor
        · rintro ⟨y, e, h⟩
          have e : (i + t * s) % n = y := by omega
          rw [e]
          exact h
        · exact fun h => ⟨_, rfl, h⟩
      refine ⟨!decide ((((i + t * s) % n : Nat) : Int) ∈ ks), fun Q E q => ?_, fun h => ?_, fun h => ?_⟩
      · exact qe (Q := Q) (congrArg Bool.not val_some) q
      · have h := of_decide_eq_false (nt h)
        have tr : t ≠ ret n s L i := fun z => h (hin.mpr z)
        have e2 : ((((i + t * s) % n : Nat) : Int) + (s : Int)) % (n : Int) = (((i + (t + 1) * s) % n : Nat) : Int) := by
          rw [← mod_step, Int.natCast_emod _ n]
          rfl
        refine seq_of (put_of (.bl true) (.inl (((i + t * s) % n : Nat) : Int)) _ (fun Q E q => q) (fun Q E q => q) rfl ?_ ?_)
        · rw [kvF_length]
          show ks.length < 1000000
          omega
        dsimp only
        refine set_of (.int (((i + (t + 1) * s) % n : Nat) : Int)) (fun Q E q => ⟨by omega, by rw [← e2] at q; exact q⟩) ?_
        refine ⟨ret n s L i - (t + 1), by omega, t + 1, addK ks (((i + t * s) % n : Nat) : Int), by omega, by omega, rfl, nodup_addK hd, fun x => ?_, ?_, ?_⟩
        · rw [mem_addK, hm]
          constructor
          · rintro (⟨y, e, h⟩ | rfl)
            · refine ⟨y, e, ?_⟩
              rcases h with h | h | ⟨j, j1, j2, e⟩
              · exact .inl h
              · exact .inr (.inl h)
              · exact .inr (.inr ⟨j, j1, by omega, e⟩)
            · exact ⟨_, rfl, .inr (.inr ⟨t, t1, by omega, rfl⟩)⟩
          · rintro ⟨y, e, h⟩
            rcases h with h | h | ⟨j, j1, j2, e'⟩
            · exact .inl ⟨y, e, .inl h⟩
            · exact .inl ⟨y, e, .inr (.inl h)⟩
            · by_cases z : j = t
              · rw [z] at e'
                rw [e, e']
                exact .inr rfl
              · exact .inl ⟨y, e, .inr (.inr ⟨j, j1, by omega, e'⟩)⟩
        · unfold addK
          rw [if_neg h, List.length_append, List.length_singleton, hl]
          omega
        · have e5 : putG (kvF (fun _ => D.bl true) ks) (.inl (((i + t * s) % n : Nat) : Int)) (.bl true) = kvF (fun _ => D.bl true) (addK ks (((i + t * s) % n : Nat) : Int)) := by
            rw [putG_kvF]
            refine kvF_congr fun k _ => ?_
            unfold updF
            split <;> rfl
          rw [← e5]
          rfl
      · have h := of_decide_eq_true (nf h)
        have tr := hin.mp h
        subst tr
        refine hN _ ⟨i + 1, ks, some (.d (.int (i : Int))), some (.d (.int (((i + ret n s L i * s) % n : Nat) : Int))), ?_, by omega, hd, fun x => ?_, ?_, rfl⟩
        · rw [List.range_succ, List.map_append]
          rfl
        · rw [hm]
          constructor
          · rintro ⟨y, e, h⟩
            refine ⟨y, e, ?_⟩
            rcases h with h | ⟨d, j, d1, j1, j2, e⟩ | ⟨j, j1, j2, e⟩
            · exact .inl h
            · exact .inr (.inl ⟨d, j, by omega, j1, j2, e⟩)
            · exact .inr (.inl ⟨i, j, by omega, j1, j2, e⟩)
          · rintro ⟨y, e, h⟩
            refine ⟨y, e, ?_⟩
            rcases h with h | ⟨d, j, d1, j1, j2, e9⟩ | ⟨j, j1, j2, e9⟩
            · exact .inl h
            · by_cases z : d = i
              · rw [z] at j2 e9
                exact .inr (.inr ⟨j, j1, j2, e9⟩)
              · exact .inr (.inl ⟨d, j, by omega, j1, j2, e9⟩)
            · omega
        · rw [List.range_succ, List.map_append, List.sum_append, hl]
          simp only [List.map_cons, List.map_nil, List.sum_cons, List.sum_nil]
          omega
    · rintro ρ ⟨i, ks, v8, v9, e, hi, hd, hm, hl, rfl⟩
      obtain rfl : i = L := by
        have q := congrArg List.length e
        simp at q
        exact q.symm
      refine ⟨rfl, lc_map PL.pairD (fun p => D.int (p.1 * p.2)) _ (fun p hp => ⟨_, rfl, fun Q E q => ⟨?_, q⟩⟩) (by show _ ≤ 1000000; omega) ⟨(tl (backsI n s i)).map fun p => p.1 * p.2, by rw [List.map_map]; rfl, rfl, rfl, Nat.zero_le _, ?_⟩⟩
      · obtain ⟨c, e, hc⟩ := tl_snd hp
        rw [backsI_length] at hc
        rw [e]
        exact cm_r (by omega) (by omega)
      · refine qe (Q := fun b => Q (.bl b)) (show eqD (.int ((tl (backsI n s i)).map fun p => p.1 * p.2).sum) (.int ((kvF (fun _ => D.bl true) ks).length : Int)) = true from ?_) hq
        rw [sum_tl, kvF_length, hl]
        unfold backsI
        rw [sum_ret n1 L2 i (Nat.le_refl _)]
        exact eqI_self _
end
end K66
end
section
set_option Elab.async false
set_option linter.all false
set_option maxRecDepth 100000
set_option maxHeartbeats 4000000
namespace K66
open PySem PySem.Spec PyProof.Rows L2 PL
variable [PL.TabList]
abbrev st__law_word : Stmt := top 24
theorem S__law_word : FnScope ["call", "word", "e", "some", "words"] ["call"] (defScope st__law_word) := ⟨rfl, rfl, rfl, by decide +kernel, rfl, by decide +kernel, by decide +kernel⟩
abbrev At__law_word (K : PySem.W.Frag) (mg : Str → Option Value) := FnAt K mg "_law_word" "_law_word" st__law_word ["call"]
abbrev st__law_are_refused : Stmt := top 33
theorem S__law_are_refused : FnScope ["hand", "size", "step", "odd", "bad", "none", "words"] ["hand", "size", "step"] (defScope st__law_are_refused) := ⟨rfl, rfl, rfl, by decide +kernel, rfl, by decide +kernel, by decide +kernel⟩
abbrev At__law_are_refused (K : PySem.W.Frag) (mg : Str → Option Value) := FnAt K mg "_law_are_refused" "_law_are_refused" st__law_are_refused ["hand", "size", "step"]
structure TxtW (K : PySem.W.Frag) (mg : Str → Option Value) (T : Txt K mg) where
  X : ExcC K T.a_NoNumber
  k_BadExchange : PySem.W.kitOne K (.ref T.a_NoNumber) (.ref T.a_BadExchange) = some false
  k_NoDot : PySem.W.kitOne K (.ref T.a_NoNumber) (.ref T.a_NoDot) = some false
  k_NoExchange : PySem.W.kitOne K (.ref T.a_NoNumber) (.ref T.a_NoExchange) = some false
  k_NoNumber : PySem.W.kitOne K (.ref T.a_NoNumber) (.ref T.a_NoNumber) = some true
  k_NoSpan : PySem.W.kitOne K (.ref T.a_NoNumber) (.ref T.a_NoSpan) = some false
  k_NoSigns : PySem.W.kitOne K (.ref T.a_NoNumber) (.ref T.a_NoSigns) = some false
  k_ValueError : PySem.W.kitOne K (.ref T.a_NoNumber) (.type "ValueError") = some true
  z_ValueError : mg "ValueError" = none
  x_RE : PySem.W.exmOne K (.ref T.a_NoNumber) (.ref T.a_RingError) = some true
abbrev YW (X : Cx) (g : Addr) (cdv : Value) (s : Shared) (H : Hp) : Cx := (cxOf C8.CX0 X.prog X.w X.K X.mg X.base ["call", "word", "e", "some", "words"] "_law_word" (defScope st__law_word) g cdv X.A X.stack s H C8.E0).nox
theorem word_ok {X : Cx} (T : Txt X.K X.mg) (U : TxtW X.K X.mg T) {g : Addr} {cdv : Value} {q : Str} : LamX.GivesTo X ["call", "word", "e", "some", "words"] "_law_word" (defScope st__law_word) g cdv (defBody st__law_word) "call" q (TWord T.a_NoNumber "let" "number") := by
  refine word_gives (hN := rfl) (hnd := S__law_word.nd) (hge := rfl) (hme := T.c_RingError) (hde := by decide) (hw := rfl) (hn := rfl) (hkn := rfl) (hdw := by decide) (hcw := by decide) (hx := U.x_RE) (hs := fun f s H a oe pn hz hf => ⟨_, (dss_cons (ds_set 3 S__law_word.nd (df_lst (da_cons (de_isE (X := YW X g cdv s H) 2 U.X hz hf U.k_BadExchange T.c_BadExchange T.z_isinstance bt_isinstance) (da_cons (de_isE (X := YW X g cdv s H) 2 U.X hz hf U.k_NoDot T.c_NoDot T.z_isinstance bt_isinstance) (da_cons (de_isE (X := YW X g cdv s H) 2 U.X hz hf U.k_NoExchange T.c_NoExchange T.z_isinstance bt_isinstance) (da_cons (de_isE (X := YW X g cdv s H) 2 U.X hz hf U.k_NoNumber T.c_NoNumber T.z_isinstance bt_isinstance) da_nil))))).d)
    (dss_cons (ds_set 3 S__law_word.nd (df_cat (m1 := false) (m2 := false) (de_var 3) (df_lst (da_cons (de_isE (X := YW X g cdv s H) 2 U.X hz hf U.k_NoSpan T.c_NoSpan T.z_isinstance bt_isinstance) (da_cons (de_isE (X := YW X g cdv s H) 2 U.X hz hf U.k_NoSigns T.c_NoSigns T.z_isinstance bt_isinstance) da_nil))).d).d)
    (dss_cons (ds_set 4 S__law_word.nd (df_lst (da_cons de_str (da_cons de_str (da_cons de_str (da_cons de_str (da_cons de_str (da_cons de_str da_nil))))))).d)
    (dss_cons (ds_set 1 S__law_word.nd (de_if (dw_and (dt_eqS (m1 := false) (m2 := false) (de_count (m1 := false) (m2 := false) (de_var 3) de_bl) de_int) (dw_and1 (dt_b (m := false) (de_isET (X := YW X g cdv s H) 2 U.X hz hf U.k_ValueError U.z_ValueError bt_ValueError T.z_isinstance bt_isinstance)))).t (de_at (m1 := false) (m2 := false) (de_var 4) (de_index (m1 := false) (m2 := false) (de_var 3) de_bl)) de_str))
    (dss_one (ds_set 1 S__law_word.nd (de_if (dt_eqS (m1 := false) (m2 := false) (de_var 1) de_str) de_bot (de_var 1)))))))), fun D hD => ?_⟩) (hsw := fun _ _ _ => rfl) (hsw2 := fun _ _ _ => rfl)
  refine ⟨rfl, rfl, rfl, rfl, by show 4 ≤ 1000000; decide, ?_⟩
  refine ⟨rfl, rfl, by show 2 ≤ 1000000; decide, by show 4 + 2 ≤ 1000000; decide, ?_⟩
  refine ⟨by show 6 ≤ 1000000; decide, ?_⟩
  dsimp only
  refine seq_of (set_of (.str "number") (fun Q E q => ifE_of true (fun Q E q => tand_of true true (fun Q E q => ⟨rfl, rfl, q⟩) (fun _ Q E q => ⟨rfl, q⟩) q) (fun _ => ⟨rfl, rfl, 3, .bl true, rfl, rfl, fun k z hk hz => ?_, ixL_of (z := .str "number") rfl q⟩) (fun h => nomatch h)) ?_)
  · match k, hk, hz with
    | 0, _, hz => cases hz; rfl
    | 1, _, hz => cases hz; rfl
    | 2, _, hz => cases hz; rfl
  dsimp only
  refine set_of (.str "number") (fun Q E q => ifE_of false (fun Q E q => ?_) (fun h => nomatch h) (fun _ => q)) (hD _ rfl)
  have e : decide (("number" : Str) = "exchange") = false := by decide +kernel
  show Q (decide (("number" : Str) = "exchange"))
  rw [e]
  exact q
theorem spg_bad1 {C : Addr} {x y z : D} {n m k : String} {Q : D → Prop} {E : Err → Prop} (hx : tyD x = some n) (hy : tyD y = some m) (hz : tyD z = some k) (h : turnOk x y = false) (q : E ⟨C, []⟩) : sp_turn_gaps C [x, y, z] Q E :=
  ⟨x, y, z, n, m, k, rfl, hx, hy, hz, fun _ => q, fun n' s' h1 h2 h3 e1 e2 => by
    rw [e1, e2, turnOk_n h1 h2 h3] at h
    cases h⟩
theorem spb_bad1 {C : Addr} {x y z : D} {n m k : String} {Q : D → Prop} {E : Err → Prop} (hx : tyD x = some n) (hy : tyD y = some m) (hz : tyD z = some k) (h : turnOk x y = false) (q : E ⟨C, []⟩) : sp_turn_backs C [x, y, z] Q E :=
  ⟨x, y, z, n, m, k, rfl, hx, hy, hz, fun _ => q, fun n' s' h1 h2 h3 e1 e2 => by
    rw [e1, e2, turnOk_n h1 h2 h3] at h
    cases h⟩
theorem spg_bad2 {C : Addr} {z : D} {k : String} {n s : Nat} {Q : D → Prop} {E : Err → Prop} (n1 : 1 ≤ n) (n2 : n ≤ 1000) (n3 : s < n) (hz : tyD z = some k) (h : btw z 1 (n / Nat.gcd n s : Nat) = false) (q : E ⟨C, []⟩) : sp_turn_gaps C [.int n, .int s, z] Q E :=
  ⟨_, _, z, _, _, k, rfl, rfl, rfl, hz, fun _ => q, fun n' s' h1 h2 h3 e1 e2 => by
    cases int_inj e1
    cases int_inj e2
    exact ⟨fun _ => q, fun m m1 m2 e3 m3 => by
      rw [e3] at h
      exact absurd (show btw _ 1 _ = true from btw_n (lo := 1) m1 m3) (by rw [h]; exact Bool.false_ne_true)⟩⟩
theorem spb_bad2 {C : Addr} {z : D} {k : String} {n s : Nat} {Q : D → Prop} {E : Err → Prop} (n1 : 1 ≤ n) (n2 : n ≤ 1000) (n3 : s < n) (hz : tyD z = some k) (h : btw z 1 n = false) (q : E ⟨C, []⟩) : sp_turn_backs C [.int n, .int s, z] Q E :=
  ⟨_, _, z, _, _, k, rfl, rfl, rfl, hz, fun _ => q, fun n' s' h1 h2 h3 e1 e2 => by
    cases int_inj e1
    cases int_inj e2
    exact ⟨fun _ => q, fun m m1 m2 e3 => by
      rw [e3] at h
      exact absurd (show btw _ 1 _ = true from btw_n (lo := 1) m1 m2) (by rw [h]; exact Bool.false_ne_true)⟩⟩
theorem btw_no {i lo hi : Int} (h : i < lo ∨ hi < i) : btw (.int i) lo hi = false := by
  show (decide (lo ≤ i) && decide (i ≤ hi)) = false
  rcases h with h | h
  · rw [decide_eq_false (by omega)]; rfl
  · rw [decide_eq_false (show ¬ i ≤ hi by omega), Bool.and_false]
theorem deep_ty {t : D} (h : DeepD t) : ∃ n, tyD t = some n ∧ ∀ lo hi, btw t lo hi = false := by
  obtain ⟨x, rfl | rfl⟩ := h
  · exact ⟨_, rfl, fun _ _ => rfl⟩
  · exact ⟨_, rfl, fun _ _ => rfl⟩
theorem word_of {C : Addr} {lt ret : Str} {spec : SPEC} {ws : WA} {ρ : PSt} (xs : List D) (hws : ∀ (Q : List D → Prop) (E : Err → Prop), Q xs → ws ρ Q E) (h : ∀ (Q : D → Prop) (E' : Err → Prop), E' ⟨C, []⟩ → spec xs Q E') : Val (wWord C lt ret (wCall spec ws)) ρ (.str ret) := fun Q E q => hws _ _ (h _ _ ⟨rfl, q⟩)
theorem lst1_of {w : WE} {ρ : PSt} {y : D} (h : Val w ρ y) : Val (wLst (wCons w wNil)) ρ (.lst [y]) := fun Q E q => h _ _ ⟨by show 1 ≤ 1000000; decide, q⟩
def sp_refused : SPEC := fun xs Q _ => ∃ n s : Nat, xs = [.hnd, .int n, .int s] ∧ 1 ≤ n ∧ n ≤ 1000 ∧ s < n ∧ Q (.bl true)
section
variable {P : Program} {w : World} {K : PySem.W.Frag} {mg : Str → Option Value} {base : Heap}
theorem ok_refused (T : Txt K mg) (U : TxtW K mg T) (A : FnC K mg "_law_are_refused" "_law_are_refused" st__law_are_refused ["hand", "size", "step"]) {Pt : Addr} (TB : LamX.TabB base mg A.c Pt) (hmT : (Pt, (("_law_are_refused" : Str) ++ ".<locals>." ++ "<lambda>")) ∈ TabList.T) (hmU : ∀ p ∈ TabList.T, p.1 = Pt → p.2 = (("_law_are_refused" : Str) ++ ".<locals>." ++ "<lambda>")) (A__law_word : At__law_word K mg)
    {A1 : At_turn_gaps K mg} (F_turn_gaps : FnSp P w K mg base A1 4 (sp_turn_gaps T.a_NoNumber)) {A2 : At_turn_backs K mg} (F_turn_backs : FnSp P w K mg base A2 4 (sp_turn_backs T.a_NoNumber)) {A3 : At__law_no_number K mg} (F__law_no_number : FnSp P w K mg base A3 4 sp_no_number)
    {A4 : At__law_some K mg} (F__law_some : FnSp P w K mg base A4 2 sp_some) {A5 : At__law_deep K mg} (F__law_deep : FnSp P w K mg base A5 3 sp_deep) {A6 : At__law_unlike K mg} (F__law_unlike : FnSp P w K mg base A6 1 sp_unlike) : FnSp P w K mg base A.toFnAt 7 sp_refused := by
  have G__law_word : ∀ {cdv cdv2 : Value} {Ar : Around} {outer : List Env} {s : Shared} {H : Hp} {E : XK} {q : Str}, LamX.GivesTo (cxOf (L2.CX P w) P w K mg base ["hand", "size", "step", "odd", "bad", "none", "words"] "_law_are_refused" (defScope st__law_are_refused) A.f cdv2 Ar outer s H E) ["call", "word", "e", "some", "words"] "_law_word" (defScope st__law_word) A__law_word.f cdv (defBody st__law_word) "call" q (TWord T.a_NoNumber "let" "number") := fun {cdv cdv2 Ar outer s H E q} => word_ok (X := cxOf (L2.CX P w) P w K mg base ["hand", "size", "step", "odd", "bad", "none", "words"] "_law_are_refused" (defScope st__law_are_refused) A.f cdv2 Ar outer s H E) T U
  refine fnC A S__law_are_refused (fun xs Q E h => ?_) (fun Ar outer s H E hr => (dss_cons (ds_set 3 S__law_are_refused.nd (de_fn F__law_no_number (hr.mono (by decide)) tkX (da_cons (de_var 0) (da_cons de_int (da_cons de_int da_nil)))))
    (dss_cons (ds_set 4 S__law_are_refused.nd (de_fn F__law_some (hr.mono (by decide)) tkX (da_cons (de_var 0) (da_cons (df_lst (da_cons (de_var 1) (da_cons (de_neg de_int) (da_cons de_non (da_cons de_bl (da_cons de_str (da_cons (de_tup (da_cons de_int da_nil)) (da_cons df_dict0.d (da_cons (de_fn F__law_deep (hr.mono (by decide)) tkX (da_cons (de_var 0) da_nil)) da_nil))))))))).d da_nil))))
    (dss_cons (ds_set 5 S__law_are_refused.nd (de_fn F__law_some (hr.mono (by decide)) tkX (da_cons (de_var 0) (da_cons (df_lst (da_cons de_int (da_cons (de_add (de_var 1) de_int) (da_cons (de_neg de_int) (da_cons de_non (da_cons de_bl (da_cons de_str (da_cons (de_tup (da_cons de_int da_nil)) (da_cons df_dict0.d (da_cons (de_fn F__law_deep (hr.mono (by decide)) tkX (da_cons (de_var 0) da_nil)) da_nil)))))))))).d da_nil))))
    (dss_cons (ds_own 6 S__law_are_refused.nd (df_lst (da_cons (de_wordF (k := 4) A__law_word.F A__law_word.b A__law_word.g A__law_word.k S__law_word rfl (Or.inl rfl) (fun _ => G__law_word) TB rfl hmT hmU (hr.mono (by decide)) (fun _ _ _ _ _ _ _ hr => (de_fn F_turn_gaps (hr.mono (by decide)) tkL (da_cons (de_var 3) (da_cons (de_var 2) (da_cons de_int da_nil))))) (LamX.lamS_by (sc := defScope st__law_are_refused) (by decide +kernel))) da_nil)))
    (dss_cons (ds_app 6 (de_wordF (k := 4) A__law_word.F A__law_word.b A__law_word.g A__law_word.k S__law_word rfl (Or.inl rfl) (fun _ => G__law_word) TB rfl hmT hmU (hr.mono (by decide)) (fun _ _ _ _ _ _ _ hr => (de_fn F_turn_gaps (hr.mono (by decide)) tkL (da_cons (de_var 1) (da_cons (de_var 4) (da_cons de_int da_nil))))) (LamX.lamS_by (sc := defScope st__law_are_refused) (by decide +kernel))))
    (dss_cons (ds_app 6 (de_wordF (k := 4) A__law_word.F A__law_word.b A__law_word.g A__law_word.k S__law_word rfl (Or.inl rfl) (fun _ => G__law_word) TB rfl hmT hmU (hr.mono (by decide)) (fun _ _ _ _ _ _ _ hr => (de_fn F_turn_gaps (hr.mono (by decide)) tkL (da_cons (de_var 1) (da_cons (de_var 2) (da_cons (de_var 5) da_nil))))) (LamX.lamS_by (sc := defScope st__law_are_refused) (by decide +kernel))))
    (dss_cons (ds_app 6 (de_wordF (k := 4) A__law_word.F A__law_word.b A__law_word.g A__law_word.k S__law_word rfl (Or.inl rfl) (fun _ => G__law_word) TB rfl hmT hmU (hr.mono (by decide)) (fun _ _ _ _ _ _ _ hr => (de_fn F_turn_gaps (hr.mono (by decide)) tkL (da_cons (de_var 1) (da_cons (de_var 2) (da_cons (de_add (de_fn F__law_unlike (hr.mono (by decide)) tkL (da_cons (de_var 1) (da_cons (de_var 2) da_nil))) de_int) da_nil))))) (LamX.lamS_by (sc := defScope st__law_are_refused) (by decide +kernel))))
    (dss_cons (ds_app 6 (de_wordF (k := 4) A__law_word.F A__law_word.b A__law_word.g A__law_word.k S__law_word rfl (Or.inl rfl) (fun _ => G__law_word) TB rfl hmT hmU (hr.mono (by decide)) (fun _ _ _ _ _ _ _ hr => (de_fn F_turn_backs (hr.mono (by decide)) tkL (da_cons (de_var 3) (da_cons (de_var 2) (da_cons de_int da_nil))))) (LamX.lamS_by (sc := defScope st__law_are_refused) (by decide +kernel))))
    (dss_cons (ds_app 6 (de_wordF (k := 4) A__law_word.F A__law_word.b A__law_word.g A__law_word.k S__law_word rfl (Or.inl rfl) (fun _ => G__law_word) TB rfl hmT hmU (hr.mono (by decide)) (fun _ _ _ _ _ _ _ hr => (de_fn F_turn_backs (hr.mono (by decide)) tkL (da_cons (de_var 1) (da_cons (de_var 4) (da_cons de_int da_nil))))) (LamX.lamS_by (sc := defScope st__law_are_refused) (by decide +kernel))))
    (dss_cons (ds_app 6 (de_wordF (k := 4) A__law_word.F A__law_word.b A__law_word.g A__law_word.k S__law_word rfl (Or.inl rfl) (fun _ => G__law_word) TB rfl hmT hmU (hr.mono (by decide)) (fun _ _ _ _ _ _ _ hr => (de_fn F_turn_backs (hr.mono (by decide)) tkL (da_cons (de_var 1) (da_cons (de_var 2) (da_cons (de_var 5) da_nil))))) (LamX.lamS_by (sc := defScope st__law_are_refused) (by decide +kernel))))
    (dss_one (ds_ret (de_eq (m1 := false) (m2 := false) hr (dt_own 6) (df_rep (m1 := false) (m2 := false) (df_lst (da_cons de_str da_nil)).d de_int).d)))))))))))))) (fun xs Q E h => ?_)
  · obtain ⟨n, s, rfl, _⟩ := h
    rfl
  · obtain ⟨n, s, rfl, n1, n2, n3, hq⟩ := h
    refine ⟨rfl, fun odd ot hot hob => ?_⟩
    refine ⟨by show 1 ≤ 1000000; decide, rfl, fun d1 hd1 => ⟨by show 8 ≤ 1000000; decide, _, rfl, by show 1 ≤ 8; decide, by show 8 ≤ 1000000; decide, fun bad hbad => ?_⟩⟩
    have hb : ∃ bt, tyD bad = some bt ∧ btw bad 0 ((n : Int) - 1) = false := by
      simp only [List.mem_cons, List.mem_nil_iff, or_false] at hbad
      rcases hbad with rfl | rfl | rfl | rfl | rfl | rfl | rfl | rfl
      · exact ⟨_, rfl, btw_no (by omega)⟩
      · exact ⟨_, rfl, btw_no (by omega)⟩
      · exact ⟨_, rfl, rfl⟩
      · exact ⟨_, rfl, rfl⟩
      · exact ⟨_, rfl, rfl⟩
      · exact ⟨_, rfl, rfl⟩
      · exact ⟨_, rfl, rfl⟩
      · obtain ⟨bt, h1, h2⟩ := deep_ty hd1
        exact ⟨bt, h1, h2 _ _⟩
    obtain ⟨bt, hbt, hbb⟩ := hb
    refine ⟨by show 1 ≤ 1000000; decide, rfl, fun d2 hd2 => ⟨by show 9 ≤ 1000000; decide, _, rfl, by show 1 ≤ 9; decide, by show 9 ≤ 1000000; decide, fun no hno => ?_⟩⟩
    have ng : n / Nat.gcd n s ≤ n := Nat.div_le_self _ _
    have hn : ∃ nt, tyD no = some nt ∧ btw no 1 n = false ∧ btw no 1 (n / Nat.gcd n s : Nat) = false := by
      simp only [List.mem_cons, List.mem_nil_iff, or_false] at hno
      rcases hno with rfl | rfl | rfl | rfl | rfl | rfl | rfl | rfl | rfl
      · exact ⟨_, rfl, btw_no (by omega), btw_no (by omega)⟩
      · exact ⟨_, rfl, btw_no (by omega), btw_no (by omega)⟩
      · exact ⟨_, rfl, btw_no (by omega), btw_no (by omega)⟩
      · exact ⟨_, rfl, rfl, rfl⟩
      · exact ⟨_, rfl, rfl, rfl⟩
      · exact ⟨_, rfl, rfl, rfl⟩
      · exact ⟨_, rfl, rfl, rfl⟩
      · exact ⟨_, rfl, rfl, rfl⟩
      · obtain ⟨bt, h1, h2⟩ := deep_ty hd2
        exact ⟨bt, h1, h2 _ _, h2 _ _⟩
    obtain ⟨nt, hnt, hnb, hnc⟩ := hn
    have oddBad : ∀ y, turnOk odd y = false := fun y => by unfold turnOk; rw [hob]; rfl
    have badBad : turnOk (.int n) bad = false := by
      unfold turnOk
      rw [show turnS (.int n) bad = false from hbb, Bool.and_false]
    dsimp only
    refine seq_of (own_of (.lst [.str "number"]) (lst1_of (word_of [odd, .int s, .int 1] (fun Q E q => q) fun Q E' q => spg_bad1 hot rfl rfl (oddBad _) q)) ?_)
    dsimp only
    refine seq_of (app_of (.str "number") _ (word_of [.int n, bad, .int 1] (fun Q E q => q) fun Q E' q => spg_bad1 rfl hbt rfl badBad q) rfl (by show 1 < 1000000; decide) ?_)
    dsimp only
    refine seq_of (app_of (.str "number") _ (word_of [.int n, .int s, no] (fun Q E q => q) fun Q E' q => spg_bad2 n1 n2 n3 hnt hnc q) rfl (by show 2 < 1000000; decide) ?_)
    dsimp only
    refine seq_of (app_of (.str "number") _ (word_of [.int n, .int s, .int ((n / Nat.gcd n s : Nat) + 1 : Int)] (fun Q E q => ⟨n, s, rfl, n1, fun u hu => by rw [← ord_eq n1 hu] at q; exact q⟩) fun Q E' q => spg_bad2 n1 n2 n3 rfl (btw_no (by omega)) q) rfl (by show 3 < 1000000; decide) ?_)
    dsimp only
    refine seq_of (app_of (.str "number") _ (word_of [odd, .int s, .int 1] (fun Q E q => q) fun Q E' q => spb_bad1 hot rfl rfl (oddBad _) q) rfl (by show 4 < 1000000; decide) ?_)
    dsimp only
    refine seq_of (app_of (.str "number") _ (word_of [.int n, bad, .int 1] (fun Q E q => q) fun Q E' q => spb_bad1 rfl hbt rfl badBad q) rfl (by show 5 < 1000000; decide) ?_)
    dsimp only
    refine seq_of (app_of (.str "number") _ (word_of [.int n, .int s, no] (fun Q E q => q) fun Q E' q => spb_bad2 n1 n2 n3 hnt hnb q) rfl (by show 6 < 1000000; decide) ?_)
    dsimp only
    refine ⟨by show 1 ≤ 1000000; decide, by decide, by decide, by show 1 * 7 ≤ 1000000; decide, rfl, rfl, by decide, qe (Q := fun b => Q (.bl b)) ?_ hq⟩
    first | rfl | decide +kernel
/-! ### the law -/
end
end K66
end
section
set_option Elab.async false
set_option linter.all false
set_option maxRecDepth 100000
set_option maxHeartbeats 4000000
namespace K66
open PySem PySem.Spec PyProof.Rows L2 PL
variable [PL.TabList]
abbrev st_law : Stmt := top 34
theorem S_law : FnScope ["script", "hand", "turn", "size", "step", "many"] ["script"] (defScope st_law) := ⟨rfl, rfl, rfl, by decide +kernel, rfl, by decide +kernel, by decide +kernel⟩
abbrev At_law (K : PySem.W.Frag) (mg : Str → Option Value) := FnAt K mg "law" "law" st_law ["script"]
def sp_law : SPEC := fun xs Q _ => ∃ ns : List Int, xs = [.scr ns] ∧ ns.length ≤ 1000 ∧ Q (.bl true)
theorem tb_of {we : WE} {ρ : PSt} {b : Bool} (h : Val we ρ (.bl b)) : ∀ (Q : Bool → Prop) (E : Err → Prop), Q b → wTB we ρ Q E := fun Q E q => h _ _ q
theorem tnot_of {wt : WT} {ρ : PSt} {b : Bool} (h : ∀ (Q : Bool → Prop) (E : Err → Prop), Q b → wt ρ Q E) : ∀ (Q : Bool → Prop) (E : Err → Prop), Q (!b) → wTNot wt ρ Q E := fun Q E q => h _ _ q
theorem call_of {spec : SPEC} {ws : WA} {ρ : PSt} {r : D} (xs : List D) (hws : ∀ (Q : List D → Prop) (E : Err → Prop), Q xs → ws ρ Q E) (h : ∀ (Q : D → Prop) (E : Err → Prop), Q r → spec xs Q E) : Val (wCall spec ws) ρ r := fun Q E q => hws _ _ (h _ _ q)
theorem lst2_of {w1 w2 : WE} {ρ : PSt} {x y : D} (h1 : Val w1 ρ x) (h2 : Val w2 ρ y) : Val (wLst (wCons w1 (wCons w2 wNil))) ρ (.lst [x, y]) := fun Q E q => h1 _ _ (h2 _ _ ⟨by show 2 ≤ 1000000; decide, q⟩)
theorem acons_of {we : WE} {ws : WA} {ρ : PSt} {x : D} {xs : List D} (h : Val we ρ x) (hws : ∀ (Q : List D → Prop) (E : Err → Prop), Q xs → ws ρ Q E) : ∀ (Q : List D → Prop) (E : Err → Prop), Q (x :: xs) → wCons we ws ρ Q E := fun Q E q => h _ _ (hws _ _ q)
theorem ifE_dem {wt : WT} {wa wb : WE} {ρ : PSt} {Q : D → Prop} {E : Err → Prop} (h : ∀ Qb : Bool → Prop, (∀ b, Qb b) → wt ρ Qb E) (k1 : wa ρ Q E) (k2 : wb ρ Q E) : wIf wt wa wb ρ Q E := h _ fun b => by
  cases b
  · exact k2
  · exact k1
theorem tand_dem {wt wu : WT} {ρ : PSt} {E : Err → Prop} (h1 : ∀ Qb : Bool → Prop, (∀ b, Qb b) → wt ρ Qb E) (h2 : ∀ Qb : Bool → Prop, (∀ b, Qb b) → wu ρ Qb E) : ∀ Qb : Bool → Prop, (∀ b, Qb b) → wTAnd wt wu ρ Qb E := fun Qb q => h1 _ fun b => by
  cases b
  · exact q false
  · exact h2 Qb q
theorem setD_of {i : Nat} {we : WE} {D : PEnds} {ρ : PSt} (R : PL.D → Prop) (h : ∀ (Q : PL.D → Prop) (E : Err → Prop), (∀ y, R y → Q y) → we ρ Q E) (k : ∀ y, R y → D.nx (ρ.set i (some (.d y)))) : wSet i we D ρ := h _ _ k
theorem gaps_8 : tl (gapsI 8 (dotsI 8 3 5)) = [(1, 2), (2, 3)] := by
  have e : dotsI 8 3 5 = [0, 1, 3, 4, 6] := by
    unfold dotsI
    exact (srt_uniq (by decide) (by decide)).symm
  rw [e]
  decide +kernel
theorem backs_8 : tl (backsI 8 3 3) = [(2, 1), (3, 2)] := by
  have r0 : ret 8 3 3 0 = 3 := ret_eq ⟨by decide, by decide, fun k a b => by
    have : k = 1 ∨ k = 2 := by omega
    rcases this with rfl | rfl <;> decide⟩
  have r1 : ret 8 3 3 1 = 3 := ret_eq ⟨by decide, by decide, fun k a b => by
    have : k = 1 ∨ k = 2 := by omega
    rcases this with rfl | rfl <;> decide⟩
  have r2 : ret 8 3 3 2 = 2 := ret_eq ⟨by decide, by decide, fun k a b => by
    have : k = 1 := by omega
    rcases this with rfl; decide⟩
  have e : backsI 8 3 3 = [3, 3, 2] := by
    unfold backsI
    show [(ret 8 3 3 0 : Int), (ret 8 3 3 1 : Int), (ret 8 3 3 2 : Int)] = _
    rw [r0, r1, r2]
    rfl
  rw [e]
  decide +kernel
section
variable {P : Program} {w : World} {K : PySem.W.Frag} {mg : Str → Option Value} {base : Heap}
theorem ok_law (T : Txt K mg) (A : At_law K mg) {A1 : At_turn_gaps K mg} (F_turn_gaps : FnSp P w K mg base A1 4 (sp_turn_gaps T.a_NoNumber)) {A2 : At_turn_backs K mg} (F_turn_backs : FnSp P w K mg base A2 4 (sp_turn_backs T.a_NoNumber)) {A3 : At__law_hand K mg} (F__law_hand : FnSp P w K mg base A3 1 sp_hand)
    {A4 : At__law_draw K mg} (F__law_draw : FnSp P w K mg base A4 1 sp_draw) {A5 : At__law_is K mg} (F__law_is : FnSp P w K mg base A5 4 (sp_isN 4)) {A6 : At__law_unlike K mg} (F__law_unlike : FnSp P w K mg base A6 1 sp_unlike) {A7 : At__law_are_told_right K mg} (F__law_are_told_right : FnSp P w K mg base A7 5 sp_right)
    {A8 : FnAt K mg "_law_are_refused" "_law_are_refused" st__law_are_refused ["hand", "size", "step"]} (F__law_are_refused : FnSp P w K mg base A8 7 sp_refused) : FnSp P w K mg base A 8 sp_law := by
  refine fnS A S_law (fun xs Q E h => ?_) (fun cdv Ar outer s H E hr => (dss_cons (ds_set 1 S_law.nd (de_fn F__law_hand (hr.mono (by decide)) tkX (da_cons (de_var 0) da_nil)))
    (dss_cons (ds_if (dt_not (dt_b (m := false) (de_fn F__law_is (hr.mono (by decide)) tkX (da_cons (df_lst (da_cons (de_fn F_turn_gaps (hr.mono (by decide)) tkX (da_cons de_int (da_cons de_int (da_cons de_int da_nil)))) (da_cons (de_fn F_turn_backs (hr.mono (by decide)) tkX (da_cons de_int (da_cons de_int (da_cons de_int da_nil)))) da_nil))).d (da_cons (df_lst (da_cons (de_tup (da_cons (de_tup (da_cons de_int (da_cons de_int da_nil))) (da_cons (de_tup (da_cons de_int (da_cons de_int da_nil))) da_nil))) (da_cons (de_tup (da_cons (de_tup (da_cons de_int (da_cons de_int da_nil))) (da_cons (de_tup (da_cons de_int (da_cons de_int da_nil))) da_nil))) da_nil))).d da_nil))))) (dss_one (ds_ret de_bl)) dss_nil)
    (dss_cons (ds_for hpX (di_range1 (m := false) T.z_range (da_cons de_int da_nil)) (dg_name 2 S_law.nd) (dss_cons (ds_set 3 S_law.nd (de_if (dw_and (dt_eq (m1 := false) (m2 := false) hr (de_var 2) de_int) (dw_and1 (dt_eq (m1 := false) (m2 := false) hr (de_fn F__law_draw (hr.mono (by decide)) tkX (da_cons (de_var 1) (da_cons de_int da_nil))) de_int))).t de_int (de_add de_int (de_fn F__law_draw (hr.mono (by decide)) tkX (da_cons (de_var 1) (da_cons de_int da_nil))))))
    (dss_cons (ds_set 4 S_law.nd (de_fn F__law_draw (hr.mono (by decide)) tkX (da_cons (de_var 1) (da_cons (de_var 3) da_nil))))
    (dss_cons (ds_set 5 S_law.nd (de_add de_int (de_fn F__law_draw (hr.mono (by decide)) tkX (da_cons (de_var 1) (da_cons (de_min2 (m1 := false) (da_cons de_int (da_cons (de_fn F__law_unlike (hr.mono (by decide)) tkX (da_cons (de_var 3) (da_cons (de_var 4) da_nil))) da_nil)) T.z_min bt_min) da_nil)))))
    (dss_cons (ds_if (dt_not (dt_b (m := false) (de_fn F__law_are_told_right (hr.mono (by decide)) tkX (da_cons (de_var 3) (da_cons (de_var 4) (da_cons (de_var 5) (da_cons (de_add de_int (de_fn F__law_draw (hr.mono (by decide)) tkX (da_cons (de_var 1) (da_cons (de_var 3) da_nil)))) da_nil))))))) (dss_one (ds_ret de_bl)) dss_nil)
    (dss_one (ds_if (dt_not (dt_b (m := false) (de_fn F__law_are_refused (hr.mono (by decide)) tkX (da_cons (de_var 1) (da_cons (de_var 3) (da_cons (de_var 4) da_nil)))))) (dss_one (ds_ret de_bl)) dss_nil)))))))
    (dss_one (ds_ret de_bl)))))) (fun xs Q E h => ?_)
  · obtain ⟨ns, rfl, _⟩ := h
    rfl
  · obtain ⟨ns, rfl, hl, hq⟩ := h
    refine seq_of (set_of .hnd (fun Q E q => ⟨ns, rfl, hl, q⟩) ?_)
    dsimp only
    have hg : ∀ (Q : D → Prop) (E : Err → Prop), Q (.tup [.tup [.int 1, .int 2], .tup [.int 2, .int 3]]) → sp_turn_gaps T.a_NoNumber [.int 8, .int 3, .int 5] Q E := fun Q E q =>
      spg_of (n := 8) (s := 3) (m := 5) (by decide) (by decide) (by decide) (by decide) (by decide) (by rw [gaps_8]; exact q)
    have hb : ∀ (Q : D → Prop) (E : Err → Prop), Q (.tup [.tup [.int 2, .int 1], .tup [.int 3, .int 2]]) → sp_turn_backs T.a_NoNumber [.int 8, .int 3, .int 3] Q E := fun Q E q =>
      spb_of (n := 8) (s := 3) (L := 3) (by decide) (by decide) (by decide) (by decide) (by decide) (by rw [backs_8]; exact q)
    refine seq_of (if_of (!true) (tnot_of (tb_of (call_of _ (acons_of (lst2_of (call_of _ (fun Q E q => q) hg) (call_of _ (fun Q E q => q) hb)) (acons_of (x := .lst [.tup [.tup [.int 1, .int 2], .tup [.int 2, .int 3]], .tup [.tup [.int 2, .int 1], .tup [.int 3, .int 2]]]) (fun Q E q => ?_) (fun Q E q => q))) (fun Q E q => ⟨_, rfl, by decide, q⟩)))) (fun h => nomatch h) (fun _ => ?_))
    · exact ⟨by show 2 ≤ 1000000; decide, by show 2 ≤ 1000000; decide, by show 2 ≤ 1000000; decide, by show 2 ≤ 1000000; decide, by show 2 ≤ 1000000; decide, by show 2 ≤ 1000000; decide, by show 2 ≤ 1000000; decide, q⟩
    dsimp only [wNext]
    refine ⟨by decide, by decide, ?_⟩
    refine for_of (rng 0 5) (fun done ρ => ∃ v2 v3 v4 v5 : Option S, ρ = [some (.d (.scr ns)), some (.d .hnd), v2, v3, v4, v5]) ⟨_, _, _, _, rfl⟩ ?_ (fun ρ h => ?_)
    · rintro done x rest ρ e ⟨v2, v3, v4, v5, rfl⟩ N hN
      obtain ⟨i, rfl⟩ : ∃ i : Int, x = .int i := by
        have q : x ∈ rng 0 5 := by rw [e]; simp
        unfold rng at q
        obtain ⟨i, _, rfl⟩ := List.mem_map.mp q
        exact ⟨_, rfl⟩
      refine ⟨_, rfl, seq_of (setD_of (fun y => ∃ n : Nat, y = .int n ∧ 1 ≤ n ∧ n ≤ 1000) (fun Q E k => ifE_dem (tand_dem (fun Qb q => ⟨rfl, rfl, Nat.zero_le _, q _⟩) (fun Qb q => ⟨4, rfl, by decide, by decide, fun j _ _ => ⟨rfl, rfl, Nat.zero_le _, q _⟩⟩)) (k _ ⟨1000, rfl, by decide, by decide⟩) ⟨60, rfl, by decide, by decide, fun j j0 j1 => ?_⟩) ?_)⟩
      · refine k _ ⟨1 + j.toNat, ?_, by omega, by omega⟩
        show D.int (1 + j) = _
        congr 1
        omega
      rintro _ ⟨n, rfl, n1, n2⟩
      refine ⟨n, rfl, by omega, by omega, fun s s0 s1 => ?_⟩
      obtain ⟨s, rfl⟩ := Int.eq_ofNat_of_zero_le s0
      have n3 : s < n := by omega
      refine ⟨n, s, rfl, n1, fun u hu => ?_⟩
      have hu' := ord_eq n1 hu
      have up := quo_pos (s := s) n1
      have ug : n / Nat.gcd n s ≤ n := Nat.div_le_self _ _
      have hmin : 1 ≤ (if (u : Int) < 80 then (u : Int) else 80) ∧ (if (u : Int) < 80 then (u : Int) else 80) ≤ u := by split <;> omega
      refine ⟨_, rfl, hmin.1, by have := hmin.2; omega, fun m m0 m1 => ?_⟩
      obtain ⟨m, rfl⟩ := Int.eq_ofNat_of_zero_le m0
      have em : (1 : Int) + (m : Int) = ((1 + m : Nat) : Int) := by omega
      have m3 : 1 + m ≤ n / Nat.gcd n s := by have := hmin.2; omega
      dsimp only
      refine seq_of (if_of false (fun Q E q => ?_) (fun h => nomatch h) (fun _ => ?_))
      · refine ⟨n, rfl, by omega, by omega, fun l l0 l1 => ?_⟩
        obtain ⟨l, rfl⟩ := Int.eq_ofNat_of_zero_le l0
        have el : (1 : Int) + (l : Int) = ((1 + l : Nat) : Int) := by omega
        refine ⟨n, s, 1 + m, 1 + l, ?_, n1, n2, n3, by omega, m3, by omega, by omega, q⟩
        rw [← em, ← el]
      dsimp only [wNext]
      refine if_of false (fun Q E q => ?_) (fun h => nomatch h) (fun _ => ?_)
      · exact ⟨n, s, rfl, n1, n2, n3, q⟩
      · exact hN _ ⟨_, _, _, _, rfl⟩
    · obtain ⟨v2, v3, v4, v5, rfl⟩ := h
      exact hq
end
end K66
end
section
set_option Elab.async false
set_option linter.all false
set_option maxRecDepth 100000
set_option maxHeartbeats 4000000
namespace K66
open PySem PySem.Spec PyProof.Rows L2 PL
def lamQ : Str := ("_law_are_refused" : Str) ++ ".<locals>." ++ "<lambda>"
theorem all_mk {P : Program} {w : World} {K : PySem.W.Frag} {h : Heap} {mg : Str → Option Value} {fa : Addr} (X : K.In h) (G : h.Ns mainGlobals mg) (hfa : mg "law" = some (.ref fa))
    {f_is_integer : Addr} {od_is_integer an_is_integer : Option Addr} {sl_is_integer : Array (Option Value)} {oc_is_integer kV_is_integer dc_is_integer pm_is_integer ct_is_integer cd_is_integer : Value}
    {f_is_between : Addr} {od_is_between an_is_between : Option Addr} {sl_is_between : Array (Option Value)} {oc_is_between kV_is_between dc_is_between pm_is_between ct_is_between cd_is_between : Value}
    {f_common_divisor : Addr} {od_common_divisor an_common_divisor : Option Addr} {sl_common_divisor : Array (Option Value)} {oc_common_divisor kV_common_divisor dc_common_divisor pm_common_divisor ct_common_divisor cd_common_divisor : Value}
    {f_counted : Addr} {od_counted an_counted : Option Addr} {sl_counted : Array (Option Value)} {oc_counted kV_counted dc_counted pm_counted ct_counted cd_counted : Value}
    {f_check_turn : Addr} {od_check_turn an_check_turn : Option Addr} {sl_check_turn : Array (Option Value)} {oc_check_turn kV_check_turn dc_check_turn pm_check_turn ct_check_turn cd_check_turn : Value}
    {f_turn_gaps : Addr} {od_turn_gaps an_turn_gaps : Option Addr} {sl_turn_gaps : Array (Option Value)} {oc_turn_gaps kV_turn_gaps dc_turn_gaps pm_turn_gaps ct_turn_gaps cd_turn_gaps : Value}
    {f_turn_backs : Addr} {od_turn_backs an_turn_backs : Option Addr} {sl_turn_backs : Array (Option Value)} {oc_turn_backs kV_turn_backs dc_turn_backs pm_turn_backs ct_turn_backs cd_turn_backs : Value}
    {f__law_draw : Addr} {od__law_draw an__law_draw : Option Addr} {sl__law_draw : Array (Option Value)} {oc__law_draw kV__law_draw dc__law_draw pm__law_draw ct__law_draw cd__law_draw : Value}
    {f__law_some : Addr} {od__law_some an__law_some : Option Addr} {sl__law_some : Array (Option Value)} {oc__law_some kV__law_some dc__law_some pm__law_some ct__law_some cd__law_some : Value}
    {f__law_is : Addr} {od__law_is an__law_is : Option Addr} {sl__law_is : Array (Option Value)} {oc__law_is kV__law_is dc__law_is pm__law_is ct__law_is cd__law_is : Value}
    {f__law_hand : Addr} {od__law_hand an__law_hand : Option Addr} {sl__law_hand : Array (Option Value)} {oc__law_hand kV__law_hand dc__law_hand pm__law_hand ct__law_hand cd__law_hand : Value}
    {f__law_deep : Addr} {od__law_deep an__law_deep : Option Addr} {sl__law_deep : Array (Option Value)} {oc__law_deep kV__law_deep dc__law_deep pm__law_deep ct__law_deep cd__law_deep : Value}
    {f__law_word : Addr} {od__law_word an__law_word : Option Addr} {sl__law_word : Array (Option Value)} {oc__law_word kV__law_word dc__law_word pm__law_word ct__law_word cd__law_word : Value}
    {f__law_no_number : Addr} {od__law_no_number an__law_no_number : Option Addr} {sl__law_no_number : Array (Option Value)} {oc__law_no_number kV__law_no_number dc__law_no_number pm__law_no_number ct__law_no_number cd__law_no_number : Value}
    {f__law_tally : Addr} {od__law_tally an__law_tally : Option Addr} {sl__law_tally : Array (Option Value)} {oc__law_tally kV__law_tally dc__law_tally pm__law_tally ct__law_tally cd__law_tally : Value}
    {f__law_are_three : Addr} {od__law_are_three an__law_are_three : Option Addr} {sl__law_are_three : Array (Option Value)} {oc__law_are_three kV__law_are_three dc__law_are_three pm__law_are_three ct__law_are_three cd__law_are_three : Value}
    {f__law_dots : Addr} {od__law_dots an__law_dots : Option Addr} {sl__law_dots : Array (Option Value)} {oc__law_dots kV__law_dots dc__law_dots pm__law_dots ct__law_dots cd__law_dots : Value}
    {f__law_gaps : Addr} {od__law_gaps an__law_gaps : Option Addr} {sl__law_gaps : Array (Option Value)} {oc__law_gaps kV__law_gaps dc__law_gaps pm__law_gaps ct__law_gaps cd__law_gaps : Value}
    {f__law_backs : Addr} {od__law_backs an__law_backs : Option Addr} {sl__law_backs : Array (Option Value)} {oc__law_backs kV__law_backs dc__law_backs pm__law_backs ct__law_backs cd__law_backs : Value}
    {f__law_unlike : Addr} {od__law_unlike an__law_unlike : Option Addr} {sl__law_unlike : Array (Option Value)} {oc__law_unlike kV__law_unlike dc__law_unlike pm__law_unlike ct__law_unlike cd__law_unlike : Value}
    {f__law_are_told_right : Addr} {od__law_are_told_right an__law_are_told_right : Option Addr} {sl__law_are_told_right : Array (Option Value)} {oc__law_are_told_right kV__law_are_told_right dc__law_are_told_right pm__law_are_told_right ct__law_are_told_right cd__law_are_told_right : Value}
    {f__law_are_refused : Addr} {od__law_are_refused an__law_are_refused : Option Addr} {sl__law_are_refused : Array (Option Value)} {oc__law_are_refused kV__law_are_refused dc__law_are_refused pm__law_are_refused ct__law_are_refused : Value}
    {f_law : Addr} {od_law an_law : Option Addr} {sl_law : Array (Option Value)} {oc_law kV_law dc_law pm_law ct_law cd_law : Value}
    {cR PR : Addr} {ceR : Value} {cdR : Option Addr} {vsR : Array Value} {cslR : Array (Option Value)} {uM : Value} {C_BadExchange C_NoDot C_NoExchange C_NoNumber C_NoSigns C_NoSpan C_RingError : Addr}
    (a_is_integer : PySem.W.nsIn K mainGlobals "is_integer" = some (some (.ref f_is_integer)))
    (l_is_integer : K.lookup f_is_integer = some ⟨oc_is_integer, od_is_integer, .func (PySem.W.fnOf "is_integer" "is_integer" (defArgs st_is_integer) (defBody st_is_integer) (defScope st_is_integer) .none kV_is_integer dc_is_integer pm_is_integer an_is_integer cd_is_integer ct_is_integer), sl_is_integer⟩)
    (c_is_integer : PySem.W.codeIn K cd_is_integer "is_integer" = true)
    (k_is_integer : PySem.W.keepIn K (.ref f_is_integer) = true)
    (a_is_between : PySem.W.nsIn K mainGlobals "is_between" = some (some (.ref f_is_between)))
    (l_is_between : K.lookup f_is_between = some ⟨oc_is_between, od_is_between, .func (PySem.W.fnOf "is_between" "is_between" (defArgs st_is_between) (defBody st_is_between) (defScope st_is_between) .none kV_is_between dc_is_between pm_is_between an_is_between cd_is_between ct_is_between), sl_is_between⟩)
    (c_is_between : PySem.W.codeIn K cd_is_between "is_between" = true)
    (k_is_between : PySem.W.keepIn K (.ref f_is_between) = true)
    (a_common_divisor : PySem.W.nsIn K mainGlobals "common_divisor" = some (some (.ref f_common_divisor)))
    (l_common_divisor : K.lookup f_common_divisor = some ⟨oc_common_divisor, od_common_divisor, .func (PySem.W.fnOf "common_divisor" "common_divisor" (defArgs st_common_divisor) (defBody st_common_divisor) (defScope st_common_divisor) .none kV_common_divisor dc_common_divisor pm_common_divisor an_common_divisor cd_common_divisor ct_common_divisor), sl_common_divisor⟩)
    (c_common_divisor : PySem.W.codeIn K cd_common_divisor "common_divisor" = true)
    (k_common_divisor : PySem.W.keepIn K (.ref f_common_divisor) = true)
    (a_counted : PySem.W.nsIn K mainGlobals "counted" = some (some (.ref f_counted)))
    (l_counted : K.lookup f_counted = some ⟨oc_counted, od_counted, .func (PySem.W.fnOf "counted" "counted" (defArgs st_counted) (defBody st_counted) (defScope st_counted) .none kV_counted dc_counted pm_counted an_counted cd_counted ct_counted), sl_counted⟩)
    (c_counted : PySem.W.codeIn K cd_counted "counted" = true)
    (k_counted : PySem.W.keepIn K (.ref f_counted) = true)
    (a_check_turn : PySem.W.nsIn K mainGlobals "check_turn" = some (some (.ref f_check_turn)))
    (l_check_turn : K.lookup f_check_turn = some ⟨oc_check_turn, od_check_turn, .func (PySem.W.fnOf "check_turn" "check_turn" (defArgs st_check_turn) (defBody st_check_turn) (defScope st_check_turn) .none kV_check_turn dc_check_turn pm_check_turn an_check_turn cd_check_turn ct_check_turn), sl_check_turn⟩)
    (c_check_turn : PySem.W.codeIn K cd_check_turn "check_turn" = true)
    (k_check_turn : PySem.W.keepIn K (.ref f_check_turn) = true)
    (a_turn_gaps : PySem.W.nsIn K mainGlobals "turn_gaps" = some (some (.ref f_turn_gaps)))
    (l_turn_gaps : K.lookup f_turn_gaps = some ⟨oc_turn_gaps, od_turn_gaps, .func (PySem.W.fnOf "turn_gaps" "turn_gaps" (defArgs st_turn_gaps) (defBody st_turn_gaps) (defScope st_turn_gaps) .none kV_turn_gaps dc_turn_gaps pm_turn_gaps an_turn_gaps cd_turn_gaps ct_turn_gaps), sl_turn_gaps⟩)
    (c_turn_gaps : PySem.W.codeIn K cd_turn_gaps "turn_gaps" = true)
    (k_turn_gaps : PySem.W.keepIn K (.ref f_turn_gaps) = true)
    (a_turn_backs : PySem.W.nsIn K mainGlobals "turn_backs" = some (some (.ref f_turn_backs)))
    (l_turn_backs : K.lookup f_turn_backs = some ⟨oc_turn_backs, od_turn_backs, .func (PySem.W.fnOf "turn_backs" "turn_backs" (defArgs st_turn_backs) (defBody st_turn_backs) (defScope st_turn_backs) .none kV_turn_backs dc_turn_backs pm_turn_backs an_turn_backs cd_turn_backs ct_turn_backs), sl_turn_backs⟩)
    (c_turn_backs : PySem.W.codeIn K cd_turn_backs "turn_backs" = true)
    (k_turn_backs : PySem.W.keepIn K (.ref f_turn_backs) = true)
    (a__law_draw : PySem.W.nsIn K mainGlobals "_law_draw" = some (some (.ref f__law_draw)))
    (l__law_draw : K.lookup f__law_draw = some ⟨oc__law_draw, od__law_draw, .func (PySem.W.fnOf "_law_draw" "_law_draw" (defArgs st__law_draw) (defBody st__law_draw) (defScope st__law_draw) .none kV__law_draw dc__law_draw pm__law_draw an__law_draw cd__law_draw ct__law_draw), sl__law_draw⟩)
    (c__law_draw : PySem.W.codeIn K cd__law_draw "_law_draw" = true)
    (k__law_draw : PySem.W.keepIn K (.ref f__law_draw) = true)
    (a__law_some : PySem.W.nsIn K mainGlobals "_law_some" = some (some (.ref f__law_some)))
    (l__law_some : K.lookup f__law_some = some ⟨oc__law_some, od__law_some, .func (PySem.W.fnOf "_law_some" "_law_some" (defArgs st__law_some) (defBody st__law_some) (defScope st__law_some) .none kV__law_some dc__law_some pm__law_some an__law_some cd__law_some ct__law_some), sl__law_some⟩)
    (c__law_some : PySem.W.codeIn K cd__law_some "_law_some" = true)
    (k__law_some : PySem.W.keepIn K (.ref f__law_some) = true)
    (a__law_is : PySem.W.nsIn K mainGlobals "_law_is" = some (some (.ref f__law_is)))
    (l__law_is : K.lookup f__law_is = some ⟨oc__law_is, od__law_is, .func (PySem.W.fnOf "_law_is" "_law_is" (defArgs st__law_is) (defBody st__law_is) (defScope st__law_is) .none kV__law_is dc__law_is pm__law_is an__law_is cd__law_is ct__law_is), sl__law_is⟩)
    (c__law_is : PySem.W.codeIn K cd__law_is "_law_is" = true)
    (k__law_is : PySem.W.keepIn K (.ref f__law_is) = true)
    (a__law_hand : PySem.W.nsIn K mainGlobals "_law_hand" = some (some (.ref f__law_hand)))
    (l__law_hand : K.lookup f__law_hand = some ⟨oc__law_hand, od__law_hand, .func (PySem.W.fnOf "_law_hand" "_law_hand" (defArgs st__law_hand) (defBody st__law_hand) (defScope st__law_hand) .none kV__law_hand dc__law_hand pm__law_hand an__law_hand cd__law_hand ct__law_hand), sl__law_hand⟩)
    (c__law_hand : PySem.W.codeIn K cd__law_hand "_law_hand" = true)
    (k__law_hand : PySem.W.keepIn K (.ref f__law_hand) = true)
    (a__law_deep : PySem.W.nsIn K mainGlobals "_law_deep" = some (some (.ref f__law_deep)))
    (l__law_deep : K.lookup f__law_deep = some ⟨oc__law_deep, od__law_deep, .func (PySem.W.fnOf "_law_deep" "_law_deep" (defArgs st__law_deep) (defBody st__law_deep) (defScope st__law_deep) .none kV__law_deep dc__law_deep pm__law_deep an__law_deep cd__law_deep ct__law_deep), sl__law_deep⟩)
    (c__law_deep : PySem.W.codeIn K cd__law_deep "_law_deep" = true)
    (k__law_deep : PySem.W.keepIn K (.ref f__law_deep) = true)
    (a__law_word : PySem.W.nsIn K mainGlobals "_law_word" = some (some (.ref f__law_word)))
    (l__law_word : K.lookup f__law_word = some ⟨oc__law_word, od__law_word, .func (PySem.W.fnOf "_law_word" "_law_word" (defArgs st__law_word) (defBody st__law_word) (defScope st__law_word) .none kV__law_word dc__law_word pm__law_word an__law_word cd__law_word ct__law_word), sl__law_word⟩)
    (c__law_word : PySem.W.codeIn K cd__law_word "_law_word" = true)
    (k__law_word : PySem.W.keepIn K (.ref f__law_word) = true)
    (a__law_no_number : PySem.W.nsIn K mainGlobals "_law_no_number" = some (some (.ref f__law_no_number)))
    (l__law_no_number : K.lookup f__law_no_number = some ⟨oc__law_no_number, od__law_no_number, .func (PySem.W.fnOf "_law_no_number" "_law_no_number" (defArgs st__law_no_number) (defBody st__law_no_number) (defScope st__law_no_number) .none kV__law_no_number dc__law_no_number pm__law_no_number an__law_no_number cd__law_no_number ct__law_no_number), sl__law_no_number⟩)
    (c__law_no_number : PySem.W.codeIn K cd__law_no_number "_law_no_number" = true)
    (k__law_no_number : PySem.W.keepIn K (.ref f__law_no_number) = true)
    (a__law_tally : PySem.W.nsIn K mainGlobals "_law_tally" = some (some (.ref f__law_tally)))
    (l__law_tally : K.lookup f__law_tally = some ⟨oc__law_tally, od__law_tally, .func (PySem.W.fnOf "_law_tally" "_law_tally" (defArgs st__law_tally) (defBody st__law_tally) (defScope st__law_tally) .none kV__law_tally dc__law_tally pm__law_tally an__law_tally cd__law_tally ct__law_tally), sl__law_tally⟩)
    (c__law_tally : PySem.W.codeIn K cd__law_tally "_law_tally" = true)
    (k__law_tally : PySem.W.keepIn K (.ref f__law_tally) = true)
    (a__law_are_three : PySem.W.nsIn K mainGlobals "_law_are_three" = some (some (.ref f__law_are_three)))
    (l__law_are_three : K.lookup f__law_are_three = some ⟨oc__law_are_three, od__law_are_three, .func (PySem.W.fnOf "_law_are_three" "_law_are_three" (defArgs st__law_are_three) (defBody st__law_are_three) (defScope st__law_are_three) .none kV__law_are_three dc__law_are_three pm__law_are_three an__law_are_three cd__law_are_three ct__law_are_three), sl__law_are_three⟩)
    (c__law_are_three : PySem.W.codeIn K cd__law_are_three "_law_are_three" = true)
    (k__law_are_three : PySem.W.keepIn K (.ref f__law_are_three) = true)
    (a__law_dots : PySem.W.nsIn K mainGlobals "_law_dots" = some (some (.ref f__law_dots)))
    (l__law_dots : K.lookup f__law_dots = some ⟨oc__law_dots, od__law_dots, .func (PySem.W.fnOf "_law_dots" "_law_dots" (defArgs st__law_dots) (defBody st__law_dots) (defScope st__law_dots) .none kV__law_dots dc__law_dots pm__law_dots an__law_dots cd__law_dots ct__law_dots), sl__law_dots⟩)
    (c__law_dots : PySem.W.codeIn K cd__law_dots "_law_dots" = true)
    (k__law_dots : PySem.W.keepIn K (.ref f__law_dots) = true)
    (a__law_gaps : PySem.W.nsIn K mainGlobals "_law_gaps" = some (some (.ref f__law_gaps)))
    (l__law_gaps : K.lookup f__law_gaps = some ⟨oc__law_gaps, od__law_gaps, .func (PySem.W.fnOf "_law_gaps" "_law_gaps" (defArgs st__law_gaps) (defBody st__law_gaps) (defScope st__law_gaps) .none kV__law_gaps dc__law_gaps pm__law_gaps an__law_gaps cd__law_gaps ct__law_gaps), sl__law_gaps⟩)
    (c__law_gaps : PySem.W.codeIn K cd__law_gaps "_law_gaps" = true)
    (k__law_gaps : PySem.W.keepIn K (.ref f__law_gaps) = true)
    (a__law_backs : PySem.W.nsIn K mainGlobals "_law_backs" = some (some (.ref f__law_backs)))
    (l__law_backs : K.lookup f__law_backs = some ⟨oc__law_backs, od__law_backs, .func (PySem.W.fnOf "_law_backs" "_law_backs" (defArgs st__law_backs) (defBody st__law_backs) (defScope st__law_backs) .none kV__law_backs dc__law_backs pm__law_backs an__law_backs cd__law_backs ct__law_backs), sl__law_backs⟩)
    (c__law_backs : PySem.W.codeIn K cd__law_backs "_law_backs" = true)
    (k__law_backs : PySem.W.keepIn K (.ref f__law_backs) = true)
    (a__law_unlike : PySem.W.nsIn K mainGlobals "_law_unlike" = some (some (.ref f__law_unlike)))
    (l__law_unlike : K.lookup f__law_unlike = some ⟨oc__law_unlike, od__law_unlike, .func (PySem.W.fnOf "_law_unlike" "_law_unlike" (defArgs st__law_unlike) (defBody st__law_unlike) (defScope st__law_unlike) .none kV__law_unlike dc__law_unlike pm__law_unlike an__law_unlike cd__law_unlike ct__law_unlike), sl__law_unlike⟩)
    (c__law_unlike : PySem.W.codeIn K cd__law_unlike "_law_unlike" = true)
    (k__law_unlike : PySem.W.keepIn K (.ref f__law_unlike) = true)
    (a__law_are_told_right : PySem.W.nsIn K mainGlobals "_law_are_told_right" = some (some (.ref f__law_are_told_right)))
    (l__law_are_told_right : K.lookup f__law_are_told_right = some ⟨oc__law_are_told_right, od__law_are_told_right, .func (PySem.W.fnOf "_law_are_told_right" "_law_are_told_right" (defArgs st__law_are_told_right) (defBody st__law_are_told_right) (defScope st__law_are_told_right) .none kV__law_are_told_right dc__law_are_told_right pm__law_are_told_right an__law_are_told_right cd__law_are_told_right ct__law_are_told_right), sl__law_are_told_right⟩)
    (c__law_are_told_right : PySem.W.codeIn K cd__law_are_told_right "_law_are_told_right" = true)
    (k__law_are_told_right : PySem.W.keepIn K (.ref f__law_are_told_right) = true)
    (a__law_are_refused : PySem.W.nsIn K mainGlobals "_law_are_refused" = some (some (.ref f__law_are_refused)))
    (l__law_are_refused : K.lookup f__law_are_refused = some ⟨oc__law_are_refused, od__law_are_refused, .func (PySem.W.fnOf "_law_are_refused" "_law_are_refused" (defArgs st__law_are_refused) (defBody st__law_are_refused) (defScope st__law_are_refused) .none kV__law_are_refused dc__law_are_refused pm__law_are_refused an__law_are_refused (.ref cR) ct__law_are_refused), sl__law_are_refused⟩)
    (c__law_are_refused : PySem.W.codeIn K (.ref cR) "_law_are_refused" = true)
    (k__law_are_refused : PySem.W.keepIn K (.ref f__law_are_refused) = true)
    (a_law : PySem.W.nsIn K mainGlobals "law" = some (some (.ref f_law)))
    (l_law : K.lookup f_law = some ⟨oc_law, od_law, .func (PySem.W.fnOf "law" "law" (defArgs st_law) (defBody st_law) (defScope st_law) .none kV_law dc_law pm_law an_law cd_law ct_law), sl_law⟩)
    (c_law : PySem.W.codeIn K cd_law "law" = true)
    (k_law : PySem.W.keepIn K (.ref f_law) = true)
    (z_abs : PySem.W.nsIn K mainGlobals "abs" = some none)
    (z_all : PySem.W.nsIn K mainGlobals "all" = some none)
    (z_bool : PySem.W.nsIn K mainGlobals "bool" = some none)
    (z_dict : PySem.W.nsIn K mainGlobals "dict" = some none)
    (z_int : PySem.W.nsIn K mainGlobals "int" = some none)
    (z_isinstance : PySem.W.nsIn K mainGlobals "isinstance" = some none)
    (z_len : PySem.W.nsIn K mainGlobals "len" = some none)
    (z_list : PySem.W.nsIn K mainGlobals "list" = some none)
    (z_min : PySem.W.nsIn K mainGlobals "min" = some none)
    (z_range : PySem.W.nsIn K mainGlobals "range" = some none)
    (z_sorted : PySem.W.nsIn K mainGlobals "sorted" = some none)
    (z_str : PySem.W.nsIn K mainGlobals "str" = some none)
    (z_sum : PySem.W.nsIn K mainGlobals "sum" = some none)
    (z_tuple : PySem.W.nsIn K mainGlobals "tuple" = some none)
    (z_zip : PySem.W.nsIn K mainGlobals "zip" = some none)
    (z_ValueError : PySem.W.nsIn K mainGlobals "ValueError" = some none)
    (g_MOST : PySem.W.nsIn K mainGlobals "MOST_SIZE" = some (some uM))
    (v_MOST : RelV (.int 1000) uM)
    (g_BadExchange : PySem.W.nsIn K mainGlobals "BadExchange" = some (some (.ref C_BadExchange)))
    (g_NoDot : PySem.W.nsIn K mainGlobals "NoDot" = some (some (.ref C_NoDot)))
    (g_NoExchange : PySem.W.nsIn K mainGlobals "NoExchange" = some (some (.ref C_NoExchange)))
    (g_NoNumber : PySem.W.nsIn K mainGlobals "NoNumber" = some (some (.ref C_NoNumber)))
    (g_NoSigns : PySem.W.nsIn K mainGlobals "NoSigns" = some (some (.ref C_NoSigns)))
    (g_NoSpan : PySem.W.nsIn K mainGlobals "NoSpan" = some (some (.ref C_NoSpan)))
    (g_RingError : PySem.W.nsIn K mainGlobals "RingError" = some (some (.ref C_RingError)))
    (x_NoNumber : PySem.W.excIn K C_NoNumber [.type "ValueError", .type "Exception", .type "BaseException", .type "object"] "ValueError.__new__" = true)
    (y_NoNumber : PySem.W.keepIn K (.ref C_NoNumber) = true)
    (b_NoNumber : PySem.W.subIn K (.ref C_NoNumber) (.type "BaseException") = some true)
    (t_NoNumber : PySem.W.typeIn K (.ref C_NoNumber) = some (.type "type"))
    (e_hg : PySem.W.findIn K (.ref C_NoNumber) "__getattribute__" = some (some (.builtin "BaseException.__getattribute__")))
    (e_hk : PySem.W.findIn K (.ref C_NoNumber) "__getattr__" = some none)
    (e_hd : PySem.W.hasDictIn K C_NoNumber = true)
    (e_ha : PySem.W.findIn K (.ref C_NoNumber) "__class__" = some (some (.builtin "object.__class__")))
    (e_hn : PySem.W.specialIn K (.builtin "object.__class__") "__get__" = some (some (.builtin "getset_descriptor.__get__")))
    (e_ht : PySem.W.takesIn K (.builtin "object.__class__") = some true)
    (e_hm : PySem.W.mroIn K C_NoNumber (.type "object") = some true)
    (s_VE : PySem.W.subIn K (.ref C_NoNumber) (.type "ValueError") = some true)
    (s_BadExchange : PySem.W.subIn K (.ref C_NoNumber) (.ref C_BadExchange) = some false)
    (t_BadExchange : PySem.W.typeIn K (.ref C_BadExchange) = some (.type "type"))
    (d_BadExchange : PySem.W.hasDictIn K C_BadExchange = true)
    (n_BadExchange : (Value.ref C_NoNumber == Value.ref C_BadExchange) = false)
    (s_NoDot : PySem.W.subIn K (.ref C_NoNumber) (.ref C_NoDot) = some false)
    (t_NoDot : PySem.W.typeIn K (.ref C_NoDot) = some (.type "type"))
    (d_NoDot : PySem.W.hasDictIn K C_NoDot = true)
    (n_NoDot : (Value.ref C_NoNumber == Value.ref C_NoDot) = false)
    (s_NoExchange : PySem.W.subIn K (.ref C_NoNumber) (.ref C_NoExchange) = some false)
    (t_NoExchange : PySem.W.typeIn K (.ref C_NoExchange) = some (.type "type"))
    (d_NoExchange : PySem.W.hasDictIn K C_NoExchange = true)
    (n_NoExchange : (Value.ref C_NoNumber == Value.ref C_NoExchange) = false)
    (s_NoSigns : PySem.W.subIn K (.ref C_NoNumber) (.ref C_NoSigns) = some false)
    (t_NoSigns : PySem.W.typeIn K (.ref C_NoSigns) = some (.type "type"))
    (d_NoSigns : PySem.W.hasDictIn K C_NoSigns = true)
    (n_NoSigns : (Value.ref C_NoNumber == Value.ref C_NoSigns) = false)
    (s_NoSpan : PySem.W.subIn K (.ref C_NoNumber) (.ref C_NoSpan) = some false)
    (t_NoSpan : PySem.W.typeIn K (.ref C_NoSpan) = some (.type "type"))
    (d_NoSpan : PySem.W.hasDictIn K C_NoSpan = true)
    (n_NoSpan : (Value.ref C_NoNumber == Value.ref C_NoSpan) = false)
    (s_RingError : PySem.W.subIn K (.ref C_NoNumber) (.ref C_RingError) = some true)
    (t_RingError : PySem.W.typeIn K (.ref C_RingError) = some (.type "type"))
    (d_RingError : PySem.W.hasDictIn K C_RingError = true)
    (b_RingError : PySem.W.subIn K (.ref C_RingError) (.type "BaseException") = some true)
    (l_code : K.lookup cR = some ⟨ceR, cdR, .fields vsR, cslR⟩)
    (n_PR : K.lookup PR = none)
    (p_code : vsR[11]? = some (.ref PR))
    : ∃ (fR cR PR : Addr) (oR : Obj) (fdR : FuncData) (eR : Value) (ddR : Option Addr) (vsR : Array Value) (slR : Array (Option Value)), K.lookup fR = some oR ∧ oR.data = .func fdR ∧ fdR.code = .ref cR ∧ K.lookup cR = some ⟨eR, ddR, .fields vsR, slR⟩ ∧ vsR[11]? = some (.ref PR) ∧ K.lookup PR = none ∧ mg "_law_are_refused" = some (.ref fR) ∧ ∃ fd : FuncData, (∀ (s : Shared) (v : Value), BindsTo s fd ⟨[v], []⟩ [("script", v)]) ∧ ∀ base : Heap, K.In base → base.Ns mainGlobals mg → LamX.TabB base mg cR PR → FnOk P w K mg base (L2.CX P w) 8 fa fd ["script"] (@toSp ⟨[(PR, lamQ)]⟩ K sp_law) := by
  have e := hfa.symm.trans (PySem.W.mg_of X G a_law)
  cases e
  letI : TabList := ⟨[(PR, lamQ)]⟩
  have g := fun {x : Str} {v : Value} (q : PySem.W.nsIn K mainGlobals x = some (some v)) => PySem.W.mg_of X G q
  have z := fun {x : Str} (q : PySem.W.nsIn K mainGlobals x = some none) => PySem.W.mg_none_of X G q
  let T : Txt K mg := { z_abs := z z_abs, z_all := z z_all, z_bool := z z_bool, z_dict := z z_dict, z_int := z z_int, z_isinstance := z z_isinstance, z_len := z z_len, z_list := z z_list, z_min := z z_min, z_range := z z_range, z_sorted := z z_sorted, z_str := z z_str, z_sum := z z_sum, z_tuple := z z_tuple, z_zip := z z_zip, a_BadExchange := C_BadExchange, c_BadExchange := g g_BadExchange, a_NoDot := C_NoDot, c_NoDot := g g_NoDot, a_NoExchange := C_NoExchange, c_NoExchange := g g_NoExchange, a_NoNumber := C_NoNumber, c_NoNumber := g g_NoNumber, a_NoSigns := C_NoSigns, c_NoSigns := g g_NoSigns, a_NoSpan := C_NoSpan, c_NoSpan := g g_NoSpan, a_RingError := C_RingError, c_RingError := g g_RingError, u_MOST_SIZE := uM, g_MOST_SIZE := g g_MOST, v_MOST_SIZE := v_MOST, e_NoNumber := ⟨x_NoNumber, y_NoNumber, b_NoNumber, t_NoNumber⟩ }
  let U : TxtW K mg T := { X := ⟨e_hg, e_hk, b_NoNumber, e_hd, e_ha, e_hn, e_ht, e_hm⟩, k_BadExchange := kit_own n_BadExchange s_BadExchange t_BadExchange d_BadExchange, k_NoDot := kit_own n_NoDot s_NoDot t_NoDot d_NoDot, k_NoExchange := kit_own n_NoExchange s_NoExchange t_NoExchange d_NoExchange, k_NoSigns := kit_own n_NoSigns s_NoSigns t_NoSigns d_NoSigns, k_NoSpan := kit_own n_NoSpan s_NoSpan t_NoSpan d_NoSpan, k_NoNumber := kit_self, k_ValueError := kit_VE s_VE, z_ValueError := z z_ValueError, x_RE := PySem.W.exm_ref b_RingError d_RingError t_RingError s_RingError }
  have F_is_integer := fun_mk (st := st_is_integer) l_is_integer c_is_integer k_is_integer
  let A_is_integer : FnAt K mg "is_integer" "is_integer" st_is_integer ["thing"] := ⟨f_is_integer, _, F_is_integer, F_is_integer.binds (ps := ["thing"]) fun _ _ _ _ _ _ us hl => match us, hl with | [_], _ => rfl, g a_is_integer, k_is_integer⟩
  have F_is_between := fun_mk (st := st_is_between) l_is_between c_is_between k_is_between
  let A_is_between : FnAt K mg "is_between" "is_between" st_is_between ["thing", "low", "high"] := ⟨f_is_between, _, F_is_between, F_is_between.binds (ps := ["thing", "low", "high"]) fun _ _ _ _ _ _ us hl => match us, hl with | [_, _, _], _ => rfl, g a_is_between, k_is_between⟩
  have F_common_divisor := fun_mk (st := st_common_divisor) l_common_divisor c_common_divisor k_common_divisor
  let A_common_divisor : FnAt K mg "common_divisor" "common_divisor" st_common_divisor ["one", "other"] := ⟨f_common_divisor, _, F_common_divisor, F_common_divisor.binds (ps := ["one", "other"]) fun _ _ _ _ _ _ us hl => match us, hl with | [_, _], _ => rfl, g a_common_divisor, k_common_divisor⟩
  have F_counted := fun_mk (st := st_counted) l_counted c_counted k_counted
  let A_counted : FnAt K mg "counted" "counted" st_counted ["some"] := ⟨f_counted, _, F_counted, F_counted.binds (ps := ["some"]) fun _ _ _ _ _ _ us hl => match us, hl with | [_], _ => rfl, g a_counted, k_counted⟩
  have F_check_turn := fun_mk (st := st_check_turn) l_check_turn c_check_turn k_check_turn
  let A_check_turn : FnAt K mg "check_turn" "check_turn" st_check_turn ["size", "step"] := ⟨f_check_turn, _, F_check_turn, F_check_turn.binds (ps := ["size", "step"]) fun _ _ _ _ _ _ us hl => match us, hl with | [_, _], _ => rfl, g a_check_turn, k_check_turn⟩
  have F_turn_gaps := fun_mk (st := st_turn_gaps) l_turn_gaps c_turn_gaps k_turn_gaps
  let A_turn_gaps : FnAt K mg "turn_gaps" "turn_gaps" st_turn_gaps ["size", "step", "many"] := ⟨f_turn_gaps, _, F_turn_gaps, F_turn_gaps.binds (ps := ["size", "step", "many"]) fun _ _ _ _ _ _ us hl => match us, hl with | [_, _, _], _ => rfl, g a_turn_gaps, k_turn_gaps⟩
  have F_turn_backs := fun_mk (st := st_turn_backs) l_turn_backs c_turn_backs k_turn_backs
  let A_turn_backs : FnAt K mg "turn_backs" "turn_backs" st_turn_backs ["size", "step", "length"] := ⟨f_turn_backs, _, F_turn_backs, F_turn_backs.binds (ps := ["size", "step", "length"]) fun _ _ _ _ _ _ us hl => match us, hl with | [_, _, _], _ => rfl, g a_turn_backs, k_turn_backs⟩
  have F__law_draw := fun_mk (st := st__law_draw) l__law_draw c__law_draw k__law_draw
  let A__law_draw : FnAt K mg "_law_draw" "_law_draw" st__law_draw ["hand", "span"] := ⟨f__law_draw, _, F__law_draw, F__law_draw.binds (ps := ["hand", "span"]) fun _ _ _ _ _ _ us hl => match us, hl with | [_, _], _ => rfl, g a__law_draw, k__law_draw⟩
  have F__law_some := fun_mk (st := st__law_some) l__law_some c__law_some k__law_some
  let A__law_some : FnAt K mg "_law_some" "_law_some" st__law_some ["hand", "things"] := ⟨f__law_some, _, F__law_some, F__law_some.binds (ps := ["hand", "things"]) fun _ _ _ _ _ _ us hl => match us, hl with | [_, _], _ => rfl, g a__law_some, k__law_some⟩
  have F__law_is := fun_mk (st := st__law_is) l__law_is c__law_is k__law_is
  let A__law_is : FnAt K mg "_law_is" "_law_is" st__law_is ["thing", "due"] := ⟨f__law_is, _, F__law_is, F__law_is.binds (ps := ["thing", "due"]) fun _ _ _ _ _ _ us hl => match us, hl with | [_, _], _ => rfl, g a__law_is, k__law_is⟩
  have F__law_hand := fun_mk (st := st__law_hand) l__law_hand c__law_hand k__law_hand
  let A__law_hand : FnAt K mg "_law_hand" "_law_hand" st__law_hand ["script"] := ⟨f__law_hand, _, F__law_hand, F__law_hand.binds (ps := ["script"]) fun _ _ _ _ _ _ us hl => match us, hl with | [_], _ => rfl, g a__law_hand, k__law_hand⟩
  have F__law_deep := fun_mk (st := st__law_deep) l__law_deep c__law_deep k__law_deep
  let A__law_deep : FnAt K mg "_law_deep" "_law_deep" st__law_deep ["hand"] := ⟨f__law_deep, _, F__law_deep, F__law_deep.binds (ps := ["hand"]) fun _ _ _ _ _ _ us hl => match us, hl with | [_], _ => rfl, g a__law_deep, k__law_deep⟩
  have F__law_word := fun_mk (st := st__law_word) l__law_word c__law_word k__law_word
  let A__law_word : FnAt K mg "_law_word" "_law_word" st__law_word ["call"] := ⟨f__law_word, _, F__law_word, F__law_word.binds (ps := ["call"]) fun _ _ _ _ _ _ us hl => match us, hl with | [_], _ => rfl, g a__law_word, k__law_word⟩
  have F__law_no_number := fun_mk (st := st__law_no_number) l__law_no_number c__law_no_number k__law_no_number
  let A__law_no_number : FnAt K mg "_law_no_number" "_law_no_number" st__law_no_number ["hand", "least", "most"] := ⟨f__law_no_number, _, F__law_no_number, F__law_no_number.binds (ps := ["hand", "least", "most"]) fun _ _ _ _ _ _ us hl => match us, hl with | [_, _, _], _ => rfl, g a__law_no_number, k__law_no_number⟩
  have F__law_tally := fun_mk (st := st__law_tally) l__law_tally c__law_tally k__law_tally
  let A__law_tally : FnAt K mg "_law_tally" "_law_tally" st__law_tally ["items"] := ⟨f__law_tally, _, F__law_tally, F__law_tally.binds (ps := ["items"]) fun _ _ _ _ _ _ us hl => match us, hl with | [_], _ => rfl, g a__law_tally, k__law_tally⟩
  have F__law_are_three := fun_mk (st := st__law_are_three) l__law_are_three c__law_are_three k__law_are_three
  let A__law_are_three : FnAt K mg "_law_are_three" "_law_are_three" st__law_are_three ["pairs"] := ⟨f__law_are_three, _, F__law_are_three, F__law_are_three.binds (ps := ["pairs"]) fun _ _ _ _ _ _ us hl => match us, hl with | [_], _ => rfl, g a__law_are_three, k__law_are_three⟩
  have F__law_dots := fun_mk (st := st__law_dots) l__law_dots c__law_dots k__law_dots
  let A__law_dots : FnAt K mg "_law_dots" "_law_dots" st__law_dots ["size", "step", "many"] := ⟨f__law_dots, _, F__law_dots, F__law_dots.binds (ps := ["size", "step", "many"]) fun _ _ _ _ _ _ us hl => match us, hl with | [_, _, _], _ => rfl, g a__law_dots, k__law_dots⟩
  have F__law_gaps := fun_mk (st := st__law_gaps) l__law_gaps c__law_gaps k__law_gaps
  let A__law_gaps : FnAt K mg "_law_gaps" "_law_gaps" st__law_gaps ["size", "dots"] := ⟨f__law_gaps, _, F__law_gaps, F__law_gaps.binds (ps := ["size", "dots"]) fun _ _ _ _ _ _ us hl => match us, hl with | [_, _], _ => rfl, g a__law_gaps, k__law_gaps⟩
  have F__law_backs := fun_mk (st := st__law_backs) l__law_backs c__law_backs k__law_backs
  let A__law_backs : FnAt K mg "_law_backs" "_law_backs" st__law_backs ["size", "step", "length"] := ⟨f__law_backs, _, F__law_backs, F__law_backs.binds (ps := ["size", "step", "length"]) fun _ _ _ _ _ _ us hl => match us, hl with | [_, _, _], _ => rfl, g a__law_backs, k__law_backs⟩
  have F__law_unlike := fun_mk (st := st__law_unlike) l__law_unlike c__law_unlike k__law_unlike
  let A__law_unlike : FnAt K mg "_law_unlike" "_law_unlike" st__law_unlike ["size", "step"] := ⟨f__law_unlike, _, F__law_unlike, F__law_unlike.binds (ps := ["size", "step"]) fun _ _ _ _ _ _ us hl => match us, hl with | [_, _], _ => rfl, g a__law_unlike, k__law_unlike⟩
  have F__law_are_told_right := fun_mk (st := st__law_are_told_right) l__law_are_told_right c__law_are_told_right k__law_are_told_right
  let A__law_are_told_right : FnAt K mg "_law_are_told_right" "_law_are_told_right" st__law_are_told_right ["size", "step", "many", "length"] := ⟨f__law_are_told_right, _, F__law_are_told_right, F__law_are_told_right.binds (ps := ["size", "step", "many", "length"]) fun _ _ _ _ _ _ us hl => match us, hl with | [_, _, _, _], _ => rfl, g a__law_are_told_right, k__law_are_told_right⟩
  have F__law_are_refused := fun_mk (st := st__law_are_refused) l__law_are_refused c__law_are_refused k__law_are_refused
  let A__law_are_refused : FnC K mg "_law_are_refused" "_law_are_refused" st__law_are_refused ["hand", "size", "step"] := ⟨⟨f__law_are_refused, _, F__law_are_refused, F__law_are_refused.binds (ps := ["hand", "size", "step"]) fun _ _ _ _ _ _ us hl => match us, hl with | [_, _, _], _ => rfl, g a__law_are_refused, k__law_are_refused⟩, cR, ⟨_, _, _, _, _, _, _, _, rfl, l__law_are_refused, c__law_are_refused⟩⟩
  have F_law := fun_mk (st := st_law) l_law c_law k_law
  let A_law : FnAt K mg "law" "law" st_law ["script"] := ⟨_, _, F_law, F_law.binds (ps := ["script"]) fun _ _ _ _ _ _ us hl => match us, hl with | [_], _ => rfl, g a_law, k_law⟩
  refine ⟨_, cR, PR, _, _, _, _, _, _, l__law_are_refused, rfl, rfl, l_code, p_code, n_PR, g a__law_are_refused, PySem.W.fnOf "law" "law" (defArgs st_law) (defBody st_law) (defScope st_law) .none kV_law dc_law pm_law an_law cd_law ct_law, fun s v => .of_eq rfl, fun base _ _ TB => ?_⟩
  have is_integer := ok_is_integer (P := P) (w := w) (base := base) T A_is_integer
  have is_between := ok_is_between (P := P) (w := w) (base := base) T A_is_between is_integer
  have common_divisor := ok_common_divisor (P := P) (w := w) (base := base) T A_common_divisor
  have counted := ok_counted (P := P) (w := w) (base := base) T A_counted
  have check_turn := ok_check_turn (P := P) (w := w) (base := base) T A_check_turn is_between
  have turn_gaps := ok_turn_gaps (P := P) (w := w) (base := base) T A_turn_gaps is_between check_turn common_divisor counted
  have turn_backs := ok_turn_backs (P := P) (w := w) (base := base) T A_turn_backs is_between check_turn counted
  have draw := ok_draw (P := P) (w := w) (base := base) T A__law_draw
  have some_ := ok_some (P := P) (w := w) (base := base) T A__law_some draw
  have deep := ok_deep (P := P) (w := w) (base := base) T A__law_deep draw some_
  have no_number := ok_no_number (P := P) (w := w) (base := base) T A__law_no_number some_ deep
  have hand := ok_hand (P := P) (w := w) (base := base) T A__law_hand
  have tally := ok_tally (P := P) (w := w) (base := base) T A__law_tally
  have three := ok_are_three (P := P) (w := w) (base := base) T A__law_are_three
  have dots := ok_dots (P := P) (w := w) (base := base) T A__law_dots
  have gaps := ok_gaps (P := P) (w := w) (base := base) T A__law_gaps tally
  have backs := ok_backs (P := P) (w := w) (base := base) T A__law_backs tally
  have unlike := ok_unlike (P := P) (w := w) (base := base) T A__law_unlike
  have is0 : FnSp P w K mg base A__law_is 0 (sp_isN 0) := ok_bot
  have is4 := ok_is_step T A__law_is (ok_is_step T A__law_is (ok_is_step T A__law_is (ok_is_step T A__law_is is0)))
  have right := ok_right T A__law_are_told_right turn_gaps turn_backs dots is4 gaps backs three
  have refused := ok_refused T U A__law_are_refused TB (List.mem_singleton.mpr rfl) (fun p hp _ => by rw [List.mem_singleton.mp hp]; rfl) A__law_word turn_gaps turn_backs no_number some_ deep unlike
  exact ok_law T A_law turn_gaps turn_backs hand draw is4 unlike right refused
theorem row_ok {K : PySem.W.Frag} {PR : Addr} (H : Hp) (a : Addr) (ns : List Int) (hl : ns.length ≤ 63) (hT : H PR = some (.tbl #[])) (hS : SqL K H a (ns.map V.int)) : @toSp ⟨[(PR, lamQ)]⟩ K sp_law [.ref a] H (fun v _ => v = .bl true) fun _ _ _ => False := by
  letI : TabList := ⟨[(PR, lamQ)]⟩
  refine ⟨gE [], [.scr ns], fun d => d = .bl true, fun _ => False, gE_ok fun p hp => ?_, fun _ z => z.elim, .cons (.scr ?_) .nil, ⟨ns, rfl, by omega, rfl⟩, fun x v H' q _ _ r => ?_, fun _ _ _ _ z => z.elim⟩
  · have e : p = (PR, lamQ) := List.mem_singleton.mp hp
    rw [e]
    exact LamX.TabS.nil hT
  · rcases hS with h | h
    · exact .inl ⟨h, fun z => z⟩
    · exact .inr h
  · subst q
    cases r
    rfl
theorem walk {l : PySem.W.OpenLaw} {q : Program} {loose : List Str} {XP : (Str → Option Value) → Heap → Prop} {YP : World → Heap → Prop} {d : DefRec} {K : Params → PySem.W.Frag} (hn : l.most = some 63) (hdf : d.params.defaults = []) (hrec : ((recsOf q).any fun e => e.name == "_law_are_refused") = true)
    (hY : ∀ (w : World) (h : Heap), YP w h → (K w.params).In h)
    (F : ∀ (w : World) (mg : Str → Option Value) (fa : Addr) (h : Heap), (K w.params).In h → h.Ns mainGlobals mg → mg d.name = some (.ref fa) → ∃ (fR cR PR : Addr) (oR : Obj) (fdR : FuncData) (eR : Value) (ddR : Option Addr) (vsR : Array Value) (slR : Array (Option Value)),
      (K w.params).lookup fR = some oR ∧ oR.data = .func fdR ∧ fdR.code = .ref cR ∧ (K w.params).lookup cR = some ⟨eR, ddR, .fields vsR, slR⟩ ∧ vsR[11]? = some (.ref PR) ∧ (K w.params).lookup PR = none ∧ mg "_law_are_refused" = some (.ref fR) ∧
      ∃ fd : FuncData, (∀ (s : Shared) (u : Value), BindsTo s fd ⟨[u], []⟩ [("script", u)]) ∧ ∀ base : Heap, (K w.params).In base → base.Ns mainGlobals mg → LamX.TabB base mg cR PR → FnOk l.prog w (K w.params) mg base (L2.CX l.prog w) 8 fa fd ["script"] (@toSp ⟨[(PR, lamQ)]⟩ (K w.params) sp_law)) :
    PySem.W.WalkO q loose XP YP l.row.toRowW d [] (fun f vs => PySem.call f vs) := by
  refine Att.attach_callB hn hdf fun w s₀ s₁ mg mb fa o pm cd doc a vs ns G Y ho hd hcd hmg hobj hints hlen hbits hg => ?_
  have KX := hY w _ Y
  obtain ⟨fR, cR, PR, oR, fdR, eR, ddR, vsR, slR, k1, k2, k3, k4, k5, k6, hR, fd, hb, hF⟩ := F w mg fa _ KX G.T.g hmg
  have tabs : PySem.W.CodeHd s₁.heap cR PR ∧ s₁.heap.get? PR = some { cls := .none, data := .fields #[] } := by
    obtain ⟨dL, hm, hn1⟩ := List.any_eq_true.mp hrec
    have hn2 : dL.name = "_law_are_refused" := beq_iff_eq.mp hn1
    obtain ⟨a', o', fd', c', P', h1, h2, h3, h4, h5, h6⟩ := G.T.tab dL hm
    rw [hn2, hR] at h1
    cases h1
    have g1 := KX _ _ k1
    rw [g1] at h2
    cases h2
    rw [k2] at h3
    cases h3
    rw [k3] at h4
    cases h4
    have h6' := h6
    obtain ⟨⟨oc, vc, e1, _, e3, e4⟩, hP⟩ := h6
    have g2 := KX _ _ k4
    rw [g2] at e1
    cases e1
    cases e3
    rw [k5] at e4
    cases e4
    exact ⟨PySem.W.CodeHd.of h5 h6', hP⟩
  refine LamX.law_callTs (cs := [(cR, PR)]) (x := "script") (k := 8) (CX := L2.CX l.prog w) (sp := @toSp ⟨[(PR, lamQ)]⟩ (K w.params) sp_law) KX G.T.g G.T.b G.T.builtins G.T.nolimit hg (fun p hp => ?_) (fun p hp => ?_) (fun p hp => ?_) G.T.bmain hobj hints (Nat.le_trans hlen (by decide)) ⟨rfl, by decide, by decide⟩ (fun base b1 b2 b3 => hF base b1 b2 (b3 (cR, PR) List.mem_cons_self)) hb (fun H hH hS => row_ok H a ns hlen (hH (cR, PR) List.mem_cons_self) hS) fun H e s' x => ?_
  · rw [List.mem_singleton.mp hp]; exact tabs.2
  · rw [List.mem_singleton.mp hp]; exact k6
  · rw [List.mem_singleton.mp hp]; exact tabs.1
  · obtain ⟨_, _, _, _, _, _, _, _, _, _, _, _, z⟩ := x
    exact z
end K66
end
set_option Elab.async false
set_option linter.all false
open PySem PySem.W PyProof.Rows in
set_option maxRecDepth 100000 in
set_option maxHeartbeats 0 in
theorem PySem.Challenge.cw_dotmaps_k66_whole_gaps_of_three_lengths_holds : PySem.Challenge.rw_dotmaps_k66_whole_gaps_of_three_lengths.Holds :=
by
  w_on; o_law; k_head; (case hw => w_witness2)
  k_fill
  refine K66.walk (l := PySem.Challenge.rw_dotmaps_k66_whole_gaps_of_three_lengths) rfl rfl ?hrec (fun w h Y => PySem.W.km_in_of Y) ?F
  case hrec => first | rfl | decide +kernel
  case F =>
    intro w mg fa h KX G hmg
    refine' K66.all_mk KX G hmg ?a_is_integer ?l_is_integer ?c_is_integer ?k_is_integer ?a_is_between ?l_is_between ?c_is_between ?k_is_between ?a_common_divisor ?l_common_divisor ?c_common_divisor ?k_common_divisor ?a_counted ?l_counted ?c_counted ?k_counted ?a_check_turn ?l_check_turn ?c_check_turn ?k_check_turn ?a_turn_gaps ?l_turn_gaps ?c_turn_gaps ?k_turn_gaps ?a_turn_backs ?l_turn_backs ?c_turn_backs ?k_turn_backs ?a__law_draw ?l__law_draw ?c__law_draw ?k__law_draw ?a__law_some ?l__law_some ?c__law_some ?k__law_some ?a__law_is ?l__law_is ?c__law_is ?k__law_is ?a__law_hand ?l__law_hand ?c__law_hand ?k__law_hand ?a__law_deep ?l__law_deep ?c__law_deep ?k__law_deep ?a__law_word ?l__law_word ?c__law_word ?k__law_word ?a__law_no_number ?l__law_no_number ?c__law_no_number ?k__law_no_number ?a__law_tally ?l__law_tally ?c__law_tally ?k__law_tally ?a__law_are_three ?l__law_are_three ?c__law_are_three ?k__law_are_three ?a__law_dots ?l__law_dots ?c__law_dots ?k__law_dots ?a__law_gaps ?l__law_gaps ?c__law_gaps ?k__law_gaps ?a__law_backs ?l__law_backs ?c__law_backs ?k__law_backs ?a__law_unlike ?l__law_unlike ?c__law_unlike ?k__law_unlike ?a__law_are_told_right ?l__law_are_told_right ?c__law_are_told_right ?k__law_are_told_right ?a__law_are_refused ?l__law_are_refused ?c__law_are_refused ?k__law_are_refused ?a_law ?l_law ?c_law ?k_law ?z_abs ?z_all ?z_bool ?z_dict ?z_int ?z_isinstance ?z_len ?z_list ?z_min ?z_range ?z_sorted ?z_str ?z_sum ?z_tuple ?z_zip ?z_ValueError ?g_MOST ?v_MOST ?g_BadExchange ?g_NoDot ?g_NoExchange ?g_NoNumber ?g_NoSigns ?g_NoSpan ?g_RingError ?x_NoNumber ?y_NoNumber ?b_NoNumber ?t_NoNumber ?e_hg ?e_hk ?e_hd ?e_ha ?e_hn ?e_ht ?e_hm ?s_VE ?s_BadExchange ?t_BadExchange ?d_BadExchange ?n_BadExchange ?s_NoDot ?t_NoDot ?d_NoDot ?n_NoDot ?s_NoExchange ?t_NoExchange ?d_NoExchange ?n_NoExchange ?s_NoSigns ?t_NoSigns ?d_NoSigns ?n_NoSigns ?s_NoSpan ?t_NoSpan ?d_NoSpan ?n_NoSpan ?s_RingError ?t_RingError ?d_RingError ?b_RingError ?l_code ?n_PR ?p_code
    (case a_is_integer => k_is)
    (case l_is_integer => k_is)
    (case c_is_integer => k_is)
    (case k_is_integer => k_is)
    (case a_is_between => k_is)
    (case l_is_between => k_is)
    (case c_is_between => k_is)
    (case k_is_between => k_is)
    (case a_common_divisor => k_is)
    (case l_common_divisor => k_is)
    (case c_common_divisor => k_is)
    (case k_common_divisor => k_is)
    (case a_counted => k_is)
    (case l_counted => k_is)
    (case c_counted => k_is)
    (case k_counted => k_is)
    (case a_check_turn => k_is)
    (case l_check_turn => k_is)
    (case c_check_turn => k_is)
    (case k_check_turn => k_is)
    (case a_turn_gaps => k_is)
    (case l_turn_gaps => k_is)
    (case c_turn_gaps => k_is)
    (case k_turn_gaps => k_is)
    (case a_turn_backs => k_is)
    (case l_turn_backs => k_is)
    (case c_turn_backs => k_is)
    (case k_turn_backs => k_is)
    (case a__law_draw => k_is)
    (case l__law_draw => k_is)
    (case c__law_draw => k_is)
    (case k__law_draw => k_is)
    (case a__law_some => k_is)
    (case l__law_some => k_is)
    (case c__law_some => k_is)
    (case k__law_some => k_is)
    (case a__law_is => k_is)
    (case l__law_is => k_is)
    (case c__law_is => k_is)
    (case k__law_is => k_is)
    (case a__law_hand => k_is)
    (case l__law_hand => k_is)
    (case c__law_hand => k_is)
    (case k__law_hand => k_is)
    (case a__law_deep => k_is)
    (case l__law_deep => k_is)
    (case c__law_deep => k_is)
    (case k__law_deep => k_is)
    (case a__law_word => k_is)
    (case l__law_word => k_is)
    (case c__law_word => k_is)
    (case k__law_word => k_is)
    (case a__law_no_number => k_is)
    (case l__law_no_number => k_is)
    (case c__law_no_number => k_is)
    (case k__law_no_number => k_is)
    (case a__law_tally => k_is)
    (case l__law_tally => k_is)
    (case c__law_tally => k_is)
    (case k__law_tally => k_is)
    (case a__law_are_three => k_is)
    (case l__law_are_three => k_is)
    (case c__law_are_three => k_is)
    (case k__law_are_three => k_is)
    (case a__law_dots => k_is)
    (case l__law_dots => k_is)
    (case c__law_dots => k_is)
    (case k__law_dots => k_is)
    (case a__law_gaps => k_is)
    (case l__law_gaps => k_is)
    (case c__law_gaps => k_is)
    (case k__law_gaps => k_is)
    (case a__law_backs => k_is)
    (case l__law_backs => k_is)
    (case c__law_backs => k_is)
    (case k__law_backs => k_is)
    (case a__law_unlike => k_is)
    (case l__law_unlike => k_is)
    (case c__law_unlike => k_is)
    (case k__law_unlike => k_is)
    (case a__law_are_told_right => k_is)
    (case l__law_are_told_right => k_is)
    (case c__law_are_told_right => k_is)
    (case k__law_are_told_right => k_is)
    (case a__law_are_refused => k_is)
    (case l__law_are_refused => k_is)
    (case c__law_are_refused => k_is)
    (case k__law_are_refused => k_is)
    (case a_law => k_is)
    (case l_law => k_is)
    (case c_law => k_is)
    (case k_law => k_is)
    (case z_abs => k_is)
    (case z_all => k_is)
    (case z_bool => k_is)
    (case z_dict => k_is)
    (case z_int => k_is)
    (case z_isinstance => k_is)
    (case z_len => k_is)
    (case z_list => k_is)
    (case z_min => k_is)
    (case z_range => k_is)
    (case z_sorted => k_is)
    (case z_str => k_is)
    (case z_sum => k_is)
    (case z_tuple => k_is)
    (case z_zip => k_is)
    (case z_ValueError => k_is)
    (case g_MOST => k_is)
    (case v_MOST => exact ⟨_, rfl⟩)
    (case g_BadExchange => k_is)
    (case g_NoDot => k_is)
    (case g_NoExchange => k_is)
    (case g_NoNumber => k_is)
    (case g_NoSigns => k_is)
    (case g_NoSpan => k_is)
    (case g_RingError => k_is)
    (case x_NoNumber => k_exc)
    (case y_NoNumber => k_is)
    (case b_NoNumber => k_is)
    (case t_NoNumber => k_is)
    (case e_hg => k_is)
    (case e_hk => k_is)
    (case e_hd => k_is)
    (case e_ha => k_is)
    (case e_hn => k_is)
    (case e_ht => k_is)
    (case e_hm => k_is)
    (case s_VE => k_is)
    (case s_BadExchange => k_is)
    (case t_BadExchange => k_is)
    (case d_BadExchange => k_is)
    (case n_BadExchange => rfl)
    (case s_NoDot => k_is)
    (case t_NoDot => k_is)
    (case d_NoDot => k_is)
    (case n_NoDot => rfl)
    (case s_NoExchange => k_is)
    (case t_NoExchange => k_is)
    (case d_NoExchange => k_is)
    (case n_NoExchange => rfl)
    (case s_NoSigns => k_is)
    (case t_NoSigns => k_is)
    (case d_NoSigns => k_is)
    (case n_NoSigns => rfl)
    (case s_NoSpan => k_is)
    (case t_NoSpan => k_is)
    (case d_NoSpan => k_is)
    (case n_NoSpan => rfl)
    (case s_RingError => k_is)
    (case t_RingError => k_is)
    (case d_RingError => k_is)
    (case b_RingError => k_is)
    (case l_code => k_is)
    (case p_code => rfl)
    (case n_PR => first | rfl | decide +kernel)
