import PyProof.Rows.All
import Wide.All
import OpenK.AllK
import Wide.FinOn
import HandS.ForMost
import HandS.Walk
import HandS.Evl
import HandS.Words
import KE.DataEq
import KE.DataCmp
import HandS.TupAny
import HandS.SortInts
import HandS.StrMore
import HandS.Text
import HandS.More
import HandS.Codes
import HandS.Style
import HandS.IsInst
import HandS.RaiseMore
import HandS.Conv
import PyProof.Rows.StrPadFill
import PyProof.StrOps2
import HandS.Ends
import PySem.Challenge.RW_printlands_k70_whole_roman_figures_and_l
set_option Elab.async false
set_option linter.all false
set_option maxRecDepth 100000
set_option maxHeartbeats 4000000
/-! Dt1: data, frozen and owned heaps, judgements. -/
namespace Dt
open PySem PySem.Spec PyProof.Rows L2

/-! ### wp monad -/
abbrev W (α : Type) := (α → Prop) → Prop
def Mono {α : Type} (w : W α) : Prop := ∀ P Q : α → Prop, (∀ x, P x → Q x) → w P → w Q
def ret {α : Type} (x : α) : W α := fun Φ => Φ x
def bnd {α β : Type} (w : W α) (f : α → W β) : W β := fun Φ => w fun x => f x Φ
theorem mono_ret {α : Type} (x : α) : Mono (ret x) := fun _ _ h => h x
theorem mono_bnd {α β : Type} {w : W α} {f : α → W β} (hw : Mono w) (hf : ∀ x, Mono (f x)) : Mono (bnd w f) := fun P Q h => hw _ _ fun x => hf x P Q h
theorem mono_ite {α : Type} {b : Bool} {w u : W α} (hw : Mono w) (hu : Mono u) : Mono (if b then w else u) := by
  cases b with
  | true => exact hw
  | false => exact hu
@[simp] theorem ret_bnd {α β : Type} (x : α) (f : α → W β) : bnd (ret x) f = f x := rfl
@[simp] theorem bnd_ret {α : Type} (w : W α) : bnd w ret = w := rfl
@[simp] theorem bnd_bnd {α β γ : Type} (w : W α) (f : α → W β) (g : β → W γ) : bnd (bnd w f) g = bnd w fun x => bnd (f x) g := rfl

/-! ### data -/
inductive D where
  | non | bl (b : Bool) | int (i : Int) | str (s : Str)
  | lst (ds : List D) | tup (ds : List D)
  | dk (kvs : List (Key × D)) | dt (kvs : List (List Key × D))
  | scr (ns : List Int) | kt (ds : List D)

mutual
inductive Rep (K : PySem.W.Frag) (F : Hp) : V → D → Prop where
  | non : Rep K F .non .non
  | bl (b : Bool) : Rep K F (.bl b) (.bl b)
  | int (i : Int) : Rep K F (.int i) (.int i)
  | str (s : Str) : s.length ≤ sizeLine → Rep K F (.str s) (.str s)
  | lst {a : Addr} {vs : List V} {ds : List D} : F a = some (.lst vs) → Reps K F vs ds → ds.length ≤ sizeLine → Rep K F (.ref a) (.lst ds)
  | kt {a : Addr} {vs : List V} {ds : List D} : SqT K F a vs → Reps K F vs ds → ds.length ≤ sizeLine → Rep K F (.ref a) (.kt ds)
  | scr {a : Addr} {ns : List Int} : SqL K F a (ns.map V.int) → ns.length ≤ sizeLine → Rep K F (.ref a) (.scr ns)
  | tup {a : Addr} {vs : List V} {ds : List D} : F a = some (.tup vs) → Reps K F vs ds → ds.length ≤ sizeLine → Rep K F (.ref a) (.tup ds)
  | dk {a : Addr} {kvs : List (Key × V)} {kds : List (Key × D)} : F a = some (.dK kvs) → RepK K F kvs kds → kds.length ≤ sizeLine → Rep K F (.ref a) (.dk kds)
  | dt {a : Addr} {kvs : List (List Key × V)} {kds : List (List Key × D)} : F a = some (.dT kvs) → RepT K F kvs kds → kds.length ≤ sizeLine → Rep K F (.ref a) (.dt kds)
inductive Reps (K : PySem.W.Frag) (F : Hp) : List V → List D → Prop where
  | nil : Reps K F [] []
  | cons {v : V} {d : D} {vs : List V} {ds : List D} : Rep K F v d → Reps K F vs ds → Reps K F (v :: vs) (d :: ds)
inductive RepK (K : PySem.W.Frag) (F : Hp) : List (Key × V) → List (Key × D) → Prop where
  | nil : RepK K F [] []
  | cons {k : Key} {v : V} {d : D} {vs : List (Key × V)} {ds : List (Key × D)} : Rep K F v d → RepK K F vs ds → RepK K F ((k, v) :: vs) ((k, d) :: ds)
inductive RepT (K : PySem.W.Frag) (F : Hp) : List (List Key × V) → List (List Key × D) → Prop where
  | nil : RepT K F [] []
  | cons {k : List Key} {v : V} {d : D} {vs : List (List Key × V)} {ds : List (List Key × D)} : Rep K F v d → RepT K F vs ds → RepT K F ((k, v) :: vs) ((k, d) :: ds)
end

def Sub (F F' : Hp) : Prop := ∀ a o, F a = some o → F' a = some o
theorem Sub.refl (F : Hp) : Sub F F := fun _ _ h => h
theorem Sub.trans {F G H : Hp} (a : Sub F G) (b : Sub G H) : Sub F H := fun x o h => b x o (a x o h)

section
variable {K : PySem.W.Frag} {F F' : Hp}
mutual
theorem Rep.mono (e : Sub F F') : ∀ {v : V} {d : D}, Rep K F v d → Rep K F' v d
  | _, _, .non => .non
  | _, _, .bl b => .bl b
  | _, _, .int i => .int i
  | _, _, .str s z => .str s z
  | _, _, .lst h r z => .lst (e _ _ h) (Reps.mono e r) z
  | _, _, .scr h z => .scr (Evl.ex_l e h) z
  | _, _, .tup h r z => .tup (e _ _ h) (Reps.mono e r) z
  | _, _, .kt h r z => .kt (Evl.ex_t e h) (Reps.mono e r) z
  | _, _, .dk h r z => .dk (e _ _ h) (RepK.mono e r) z
  | _, _, .dt h r z => .dt (e _ _ h) (RepT.mono e r) z
theorem Reps.mono (e : Sub F F') : ∀ {vs : List V} {ds : List D}, Reps K F vs ds → Reps K F' vs ds
  | _, _, .nil => .nil
  | _, _, .cons h r => .cons (Rep.mono e h) (Reps.mono e r)
theorem RepK.mono (e : Sub F F') : ∀ {vs : List (Key × V)} {ds : List (Key × D)}, RepK K F vs ds → RepK K F' vs ds
  | _, _, .nil => .nil
  | _, _, .cons h r => .cons (Rep.mono e h) (RepK.mono e r)
theorem RepT.mono (e : Sub F F') : ∀ {vs : List (List Key × V)} {ds : List (List Key × D)}, RepT K F vs ds → RepT K F' vs ds
  | _, _, .nil => .nil
  | _, _, .cons h r => .cons (Rep.mono e h) (RepT.mono e r)
end
theorem Reps.len : ∀ {vs : List V} {ds : List D}, Reps K F vs ds → vs.length = ds.length
  | _, _, .nil => rfl
  | _, _, .cons _ r => congrArg (· + 1) (Reps.len r)
theorem Reps.get : ∀ {vs : List V} {ds : List D} {i : Nat} {d : D}, Reps K F vs ds → ds[i]? = some d → ∃ v, vs[i]? = some v ∧ Rep K F v d
  | _, _, _, _, .nil, e => by simp at e
  | _, _, 0, _, .cons h r, e => by simp at e; subst e; exact ⟨_, rfl, h⟩
  | _, _, i + 1, d, .cons h r, e => by
    obtain ⟨v, h1, h2⟩ := Reps.get (i := i) (d := d) r (by simpa using e)
    exact ⟨v, by simpa using h1, h2⟩
theorem Reps.get' : ∀ {vs : List V} {ds : List D} {i : Nat} {v : V}, Reps K F vs ds → vs[i]? = some v → ∃ d, ds[i]? = some d ∧ Rep K F v d
  | _, _, _, _, .nil, e => by simp at e
  | _, _, 0, _, .cons h r, e => by simp at e; subst e; exact ⟨_, rfl, h⟩
  | _, _, i + 1, d, .cons h r, e => by
    obtain ⟨v, h1, h2⟩ := Reps.get' (i := i) (v := d) r (by simpa using e)
    exact ⟨v, by simpa using h1, h2⟩
theorem Reps.app : ∀ {vs us : List V} {ds es : List D}, Reps K F vs ds → Reps K F us es → Reps K F (vs ++ us) (ds ++ es)
  | _, _, _, _, .nil, s => s
  | _, _, _, _, .cons h r, s => .cons h (Reps.app r s)
theorem Reps.set {v : V} {d : D} (h : Rep K F v d) : ∀ {vs : List V} {ds : List D} (i : Nat), Reps K F vs ds → Reps K F (vs.set i v) (ds.set i d)
  | _, _, _, .nil => .nil
  | _, _, 0, .cons _ r => .cons h r
  | _, _, i + 1, .cons g r => .cons g (Reps.set h i r)
theorem Reps.take : ∀ {vs : List V} {ds : List D} (n : Nat), Reps K F vs ds → Reps K F (vs.take n) (ds.take n)
  | _, _, 0, _ => .nil
  | _, _, _ + 1, .nil => .nil
  | _, _, n + 1, .cons h r => .cons h (Reps.take n r)
theorem Reps.drop : ∀ {vs : List V} {ds : List D} (n : Nat), Reps K F vs ds → Reps K F (vs.drop n) (ds.drop n)
  | _, _, 0, r => r
  | _, _, _ + 1, .nil => .nil
  | _, _, n + 1, .cons _ r => Reps.drop n r
theorem Reps.one {v : V} {d : D} (h : Rep K F v d) : Reps K F [v] [d] := .cons h .nil
end

/-! ### the state -/
/-- fixed through a def's body: the heap and its frozen part at the entry, the box's address -/
structure Gh where
  H0 : Hp
  F0 : Hp
  bx : Option Addr
  bp : Addr

def BoxAt (K : PySem.W.Frag) (p : Addr) (F H : Hp) (c : Addr) : Prop := ∃ (ds : List Int) (pos : Int), H c = some (.lst [.ref p, .int pos]) ∧ SqL K F p (ds.map V.int) ∧ 0 ≤ pos ∧ ds.length ≤ sizeLine

inductive Sl where
  | un | fr (d : D) | ow (d : D) | ob

def OwnAt (K : PySem.W.Frag) (F H : Hp) (a : Addr) : D → Prop
  | .lst ds => ∃ vs, H a = some (.lst vs) ∧ Reps K F vs ds ∧ ds.length ≤ sizeLine
  | .dk ds => ∃ kvs, H a = some (.dK kvs) ∧ RepK K F kvs ds ∧ ds.length ≤ sizeLine
  | .dt ds => ∃ kvs, H a = some (.dT kvs) ∧ RepT K F kvs ds ∧ ds.length ≤ sizeLine
  | _ => False
theorem OwnAt.some {K : PySem.W.Frag} {F H : Hp} {a : Addr} : ∀ {d : D}, OwnAt K F H a d → ∃ o, H a = Option.some o
  | .lst _, ⟨_, h, _⟩ => ⟨_, h⟩
  | .dk _, ⟨_, h, _⟩ => ⟨_, h⟩
  | .dt _, ⟨_, h, _⟩ => ⟨_, h⟩
theorem OwnAt.mono {K : PySem.W.Frag} {F H F' H' : Hp} {a : Addr} (e : Sub F F') (k : ∀ o, H a = Option.some o → H' a = Option.some o) : ∀ {d : D}, OwnAt K F H a d → OwnAt K F' H' a d
  | .lst _, ⟨_, h, r⟩ => ⟨_, k _ h, r.1.mono e, r.2⟩
  | .dk _, ⟨_, h, r⟩ => ⟨_, k _ h, r.1.mono e, r.2⟩
  | .dt _, ⟨_, h, r⟩ => ⟨_, k _ h, r.1.mono e, r.2⟩
theorem OwnAt.rep {K : PySem.W.Frag} {F H F' : Hp} {a : Addr} (e : Sub F F') (k : ∀ o, H a = Option.some o → F' a = Option.some o) : ∀ {d : D}, OwnAt K F H a d → Rep K F' (.ref a) d
  | .lst _, ⟨_, h, r⟩ => .lst (k _ h) (r.1.mono e) r.2
  | .dk _, ⟨_, h, r⟩ => .dk (k _ h) (r.1.mono e) r.2
  | .dt _, ⟨_, h, r⟩ => .dt (k _ h) (r.1.mono e) r.2

def SlOk (K : PySem.W.Frag) (G : Gh) (F H : Hp) : Sl → Option V → Prop
  | .un, _ => True
  | .fr d, x => ∃ v, x = some v ∧ Rep K F v d
  | .ow d, x => ∃ a, x = some (.ref a) ∧ OwnAt K F H a d ∧ F a = none ∧ G.H0 a = none ∧ G.bx ≠ some a
  | .ob, x => ∃ c, x = some (.ref c) ∧ G.bx = some c

structure Sta (K : PySem.W.Frag) (G : Gh) (ρ : List Sl) (σ : L2.St) (F H : Hp) : Prop where
  len : σ.length = ρ.length
  sl : ∀ (i : Nat) s, ρ[i]? = some s → ∃ x, σ[i]? = some x ∧ SlOk K G F H s x
  ne : ∀ (i j : Nat) d e a, i ≠ j → ρ[i]? = some (.ow d) → ρ[j]? = some (.ow e) → σ[i]? = some (some (V.ref a)) → σ[j]? = some (some (V.ref a)) → False
  sub : Sub F H
  ent : ∀ a o, G.H0 a = some o → G.bx ≠ some a → H a = some o
  new : ∀ a o, F a = some o → G.F0 a = some o ∨ G.H0 a = none
  f0 : Sub G.F0 F
  box : ∀ c, G.bx = some c → BoxAt K G.bp F H c ∧ F c = none

/-- what stands at a def's end -/
structure Fin (K : PySem.W.Frag) (G : Gh) (F H : Hp) : Prop where
  sub : Sub F H
  ent : ∀ a o, G.H0 a = some o → G.bx ≠ some a → H a = some o
  new : ∀ a o, F a = some o → G.F0 a = some o ∨ G.H0 a = none
  f0 : Sub G.F0 F
  box : ∀ c, G.bx = some c → BoxAt K G.bp F H c ∧ F c = none

structure Le (G : Gh) (F H F' H' : Hp) : Prop where
  f : Sub F F'
  h : ∀ a o, H a = some o → G.bx ≠ some a → H' a = some o
  n : ∀ a o, F' a = some o → F a = some o ∨ H a = none
  b : ∀ c, G.bx = some c → H c ≠ none → H' c ≠ none
theorem Le.refl (G : Gh) (F H : Hp) : Le G F H F H := ⟨Sub.refl F, fun _ _ h _ => h, fun _ _ h => .inl h, fun _ _ h => h⟩
theorem Le.trans {G : Gh} {F H F1 H1 F2 H2 : Hp} (a : Le G F H F1 H1) (b : Le G F1 H1 F2 H2) : Le G F H F2 H2 where
  f := a.f.trans b.f
  h := fun x o h n => b.h x o (a.h x o h n) n
  n := fun x o e => by
    rcases b.n x o e with h | h
    · exact a.n x o h
    · refine .inr ?_
      cases q : H x with
      | none => rfl
      | some u =>
        by_cases hb : G.bx = some x
        · exact absurd h (a.b x hb (by rw [q]; exact fun z => nomatch z))
        · have := a.h x u q hb
          rw [h] at this
          cases this
  b := fun c e h => b.b c e (a.b c e h)
theorem Le.of {G : Gh} {F H F' H' : Hp} (f : Sub F F') (h : Sub H H') (n : ∀ a o, F' a = some o → F a = some o ∨ H a = none) : Le G F H F' H' := ⟨f, fun a o e _ => h a o e, n, fun c _ q z => by
  cases y : H c with
  | none => exact q y
  | some u =>
    rw [h c u y] at z
    cases z⟩

section
variable {K : PySem.W.Frag} {G : Gh} {ρ : List Sl} {σ : L2.St} {F H F' H' : Hp} {i : Nat} {d : D} {v : V} {a : Addr}
theorem Sta.fin (st : Sta K G ρ σ F H) : Fin K G F H := ⟨st.sub, st.ent, st.new, st.f0, st.box⟩
theorem Sta.hn (st : Sta K G ρ σ F H) (h : H a = none) : G.H0 a = none ∧ G.bx ≠ some a ∧ F a = none := by
  have hb : G.bx ≠ some a := fun e => by
    obtain ⟨⟨_, _, q, _⟩, _⟩ := st.box a e
    rw [h] at q
    cases q
  refine ⟨?_, hb, ?_⟩
  · cases q : G.H0 a with
    | none => rfl
    | some o =>
      have := st.ent a o q hb
      rw [h] at this
      cases this
  · cases q : F a with
    | none => rfl
    | some o =>
      have := st.sub a o q
      rw [h] at this
      cases this
/-- the heap has grown, what is new is frozen or not -/
theorem Sta.ext (st : Sta K G ρ σ F H) (le : Le G F H F' H') (sub : Sub F' H') (box : ∀ c, G.bx = some c → BoxAt K G.bp F' H' c) : Sta K G ρ σ F' H' where
  len := st.len
  sl := fun i s e => by
    obtain ⟨x, h1, h2⟩ := st.sl i s e
    refine ⟨x, h1, ?_⟩
    cases s with
    | un => trivial
    | fr d => obtain ⟨v, e, r⟩ := h2; exact ⟨v, e, r.mono le.f⟩
    | ob => exact h2
    | ow d =>
      obtain ⟨a, e, o, n, h0, hb⟩ := h2
      refine ⟨a, e, o.mono le.f (fun u q => le.h a u q hb), ?_, h0, hb⟩
      cases q : F' a with
      | none => rfl
      | some u =>
        obtain ⟨z, hz⟩ := o.some
        rcases le.n a u q with y | y
        · rw [n] at y; cases y
        · rw [hz] at y; cases y
  ne := st.ne
  sub := sub
  ent := fun a o e n => le.h a o (st.ent a o e n) n
  new := fun a o e => by
    rcases le.n a o e with y | y
    · exact st.new a o y
    · exact .inr (st.hn y).1
  f0 := st.f0.trans le.f
  box := fun c e => by
    refine ⟨box c e, ?_⟩
    obtain ⟨⟨_, _, q, _⟩, n⟩ := st.box c e
    cases z : F' c with
    | none => rfl
    | some u =>
      rcases le.n c u z with y | y
      · rw [n] at y; cases y
      · rw [q] at y; cases y
theorem BoxAt.mono {c p : Addr} (b : BoxAt K p F H c) (e : Sub F F') (k : ∀ o, H c = some o → H' c = some o) : BoxAt K p F' H' c := by
  obtain ⟨ds, pos, h1, h2, h3⟩ := b
  exact ⟨ds, pos, k _ h1, Evl.ex_l e h2, h3⟩
/-- .. and the box has stayed -/
theorem Sta.ext' (st : Sta K G ρ σ F H) (f : Sub F F') (h : Sub H H') (sub : Sub F' H') (new : ∀ a o, F' a = some o → F a = some o ∨ H a = none) : Sta K G ρ σ F' H' :=
  st.ext (.of f h new) sub fun c e => (st.box c e).1.mono f (h c)
theorem sub_upd {F : Hp} {p : Addr} {o : HO} (h : F p = none) : Sub F (upd F p o) := fun b u e => by
  rw [upd_ne (ne_of_none e h)]
  exact e
/-- a new object that is not frozen -/
theorem Sta.laid {o : HO} (st : Sta K G ρ σ F H) (h : H a = none) : Sta K G ρ σ F (upd H a o) ∧ Le G F H F (upd H a o) :=
  ⟨st.ext' (Sub.refl F) (sub_upd h) (st.sub.trans (sub_upd h)) fun _ _ e => .inl e, .of (Sub.refl F) (sub_upd h) fun _ _ e => .inl e⟩
/-- an untracked address of H freezes -/
theorem Sta.freeze {o : HO} (st : Sta K G ρ σ F H) (h : H a = some o) (h0 : G.H0 a = none) (hb : G.bx ≠ some a) (hF : F a = none)
    (hs : ∀ (i : Nat) d, ρ[i]? = some (.ow d) → σ[i]? ≠ some (some (V.ref a))) : Sta K G ρ σ (upd F a o) H where
  len := st.len
  sl := fun i s e => by
    obtain ⟨x, h1, h2⟩ := st.sl i s e
    refine ⟨x, h1, ?_⟩
    cases s with
    | un => trivial
    | fr d => obtain ⟨v, e, r⟩ := h2; exact ⟨v, e, r.mono (sub_upd hF)⟩
    | ob => exact h2
    | ow d =>
      obtain ⟨b, eb, ow, n, h0, hb⟩ := h2
      refine ⟨b, eb, ow.mono (sub_upd hF) (fun u q => q), ?_, h0, hb⟩
      have nb : b ≠ a := fun z => hs i d e (by rw [h1, eb, z])
      rw [upd_ne nb]
      exact n
  ne := st.ne
  sub := fun b u e => by
    by_cases z : b = a
    · subst z; rw [upd_same] at e; rw [h, ← e]
    · rw [upd_ne z] at e; exact st.sub b u e
  ent := st.ent
  new := fun b u e => by
    by_cases z : b = a
    · subst z; exact .inr h0
    · rw [upd_ne z] at e; exact st.new b u e
  f0 := st.f0.trans (sub_upd hF)
  box := fun c e => by
    obtain ⟨b, n⟩ := st.box c e
    refine ⟨b.mono (sub_upd hF) fun _ q => q, ?_⟩
    have nb : c ≠ a := fun z => hb (by rw [e, z])
    rw [upd_ne nb]
    exact n
/-- a new object that is frozen at once -/
theorem Sta.laidF {o : HO} (st : Sta K G ρ σ F H) (h : H a = none) : Sta K G ρ σ (upd F a o) (upd H a o) ∧ Le G F H (upd F a o) (upd H a o) := by
  have hF := (st.hn h).2.2
  have n : ∀ b u, upd F a o b = some u → F b = some u ∨ H b = none := fun b u e => by
    by_cases z : b = a
    · subst z; exact .inr h
    · rw [upd_ne z] at e; exact .inl e
  refine ⟨st.ext' (sub_upd hF) (sub_upd h) (fun b u e => ?_) n, .of (sub_upd hF) (sub_upd h) n⟩
  by_cases z : b = a
  · subst z; rw [upd_same] at e ⊢; exact e
  · rw [upd_ne z] at e ⊢; exact st.sub b u e
theorem get_set {α : Type} {l : List α} {i j : Nat} {x y : α} (h : (l.set i x)[j]? = some y) : (j = i ∧ y = x) ∨ (j ≠ i ∧ l[j]? = some y) := by
  by_cases e : i = j
  · subst e
    by_cases hl : i < l.length
    · rw [List.getElem?_set_self hl] at h; cases h; exact .inl ⟨rfl, rfl⟩
    · rw [List.getElem?_eq_none (by simpa using hl)] at h; cases h
  · rw [List.getElem?_set_ne e] at h
    exact .inr ⟨fun z => e z.symm, h⟩
theorem set_ne' {α : Type} {l : List α} {i j : Nat} {x : α} (h : j ≠ i) : (l.set i x)[j]? = l[j]? := List.getElem?_set_ne (fun z => h z.symm)
/-- a slot gets a frozen value -/
theorem Sta.setF (st : Sta K G ρ σ F H) (r : Rep K F v d) : Sta K G (ρ.set i (.fr d)) (σ.set i (some v)) F H where
  len := by rw [List.length_set, List.length_set]; exact st.len
  sl := fun j s e => by
    rcases get_set e with ⟨rfl, rfl⟩ | ⟨n, e⟩
    · have hl : j < ρ.length := by have := List.getElem?_eq_some_iff.mp e; simpa using this.1
      exact ⟨some v, by rw [List.getElem?_set_self (by rw [st.len]; exact hl)], v, rfl, r⟩
    · obtain ⟨x, h1, h2⟩ := st.sl j s e
      exact ⟨x, by rw [set_ne' n]; exact h1, h2⟩
  ne := fun j k d1 d2 a n e1 e2 h1 h2 => by
    rcases get_set e1 with ⟨_, z⟩ | ⟨n1, e1⟩
    · cases z
    rcases get_set e2 with ⟨_, z⟩ | ⟨n2, e2⟩
    · cases z
    rw [set_ne' n1] at h1
    rw [set_ne' n2] at h2
    exact st.ne j k d1 d2 a n e1 e2 h1 h2
  sub := st.sub
  ent := st.ent
  new := st.new
  f0 := st.f0
  box := st.box
/-- a slot gets an owned object -/
theorem Sta.setO (st : Sta K G ρ σ F H) (o : OwnAt K F H a d) (hF : F a = none) (h0 : G.H0 a = none) (hb : G.bx ≠ some a) (hs : ∀ (j : Nat) d, ρ[j]? = some (.ow d) → σ[j]? ≠ some (some (V.ref a))) :
    Sta K G (ρ.set i (.ow d)) (σ.set i (some (.ref a))) F H where
  len := by rw [List.length_set, List.length_set]; exact st.len
  sl := fun j s e => by
    rcases get_set e with ⟨rfl, rfl⟩ | ⟨n, e⟩
    · have hl : j < ρ.length := by have := List.getElem?_eq_some_iff.mp e; simpa using this.1
      exact ⟨some (.ref a), by rw [List.getElem?_set_self (by rw [st.len]; exact hl)], a, rfl, o, hF, h0, hb⟩
    · obtain ⟨x, h1, h2⟩ := st.sl j s e
      exact ⟨x, by rw [set_ne' n]; exact h1, h2⟩
  ne := fun j k d1 d2 b n e1 e2 h1 h2 => by
    have hi : ∀ {j : Nat} {x : Option V} {s : Sl}, (ρ.set j s)[j]? = some s → (σ.set j x)[j]? = some x := fun {j x s} e => by
      have hl : j < ρ.length := by have := List.getElem?_eq_some_iff.mp e; simpa using this.1
      rw [List.getElem?_set_self (by rw [st.len]; exact hl)]
    rcases get_set e1 with ⟨rfl, z1⟩ | ⟨n1, q1⟩
    · rcases get_set e2 with ⟨rfl, z2⟩ | ⟨n2, q2⟩
      · exact n rfl
      · cases z1
        rw [hi e1] at h1
        cases h1
        rw [set_ne' n2] at h2
        exact hs k _ q2 h2
    · rcases get_set e2 with ⟨rfl, z2⟩ | ⟨n2, q2⟩
      · cases z2
        rw [hi e2] at h2
        cases h2
        rw [set_ne' n1] at h1
        exact hs j _ q1 h1
      · rw [set_ne' n1] at h1
        rw [set_ne' n2] at h2
        exact st.ne j k d1 d2 b n q1 q2 h1 h2
  sub := st.sub
  ent := st.ent
  new := st.new
  f0 := st.f0
  box := st.box
/-- a slot is forgotten -/
theorem Sta.drop (st : Sta K G ρ σ F H) (i : Nat) : Sta K G (ρ.set i .un) σ F H where
  len := by rw [List.length_set]; exact st.len
  sl := fun j s e => by
    rcases get_set e with ⟨rfl, rfl⟩ | ⟨n, e⟩
    · have hl : j < ρ.length := by have := List.getElem?_eq_some_iff.mp e; simpa using this.1
      exact ⟨σ[j]'(by rw [st.len]; exact hl), by simp, trivial⟩
    · exact st.sl j s e
  ne := fun j k d1 d2 b n e1 e2 h1 h2 => by
    rcases get_set e1 with ⟨_, z⟩ | ⟨n1, e1⟩
    · cases z
    rcases get_set e2 with ⟨_, z⟩ | ⟨n2, e2⟩
    · cases z
    exact st.ne j k d1 d2 b n e1 e2 h1 h2
  sub := st.sub
  ent := st.ent
  new := st.new
  f0 := st.f0
  box := st.box
/-- an owned slot freezes -/
theorem Sta.frz (st : Sta K G ρ σ F H) (e : ρ[i]? = some (.ow d)) : ∃ F', Sub F F' ∧ Sta K G (ρ.set i (.fr d)) σ F' H := by
  obtain ⟨x, h1, a, rfl, o, hF, h0, hb⟩ := st.sl i _ e
  obtain ⟨u, hu⟩ := o.some
  have st1 := (st.drop i).freeze (a := a) hu h0 hb hF fun j d' e' q => by
    rcases get_set e' with ⟨_, z⟩ | ⟨n, e'⟩
    · cases z
    · exact st.ne j i d' d a n e' e q h1
  have r : Rep K (upd F a u) (.ref a) d := o.rep (sub_upd hF) fun o' q => by
    rw [hu] at q
    cases q
    exact upd_same
  have st2 := st1.setF (i := i) r
  rw [List.set_set] at st2
  refine ⟨upd F a u, sub_upd hF, ?_⟩
  have e : σ.set i (some (V.ref a)) = σ := List.ext_getElem? fun j => by
    by_cases n : j = i
    · subst n
      have hl : j < σ.length := (List.getElem?_eq_some_iff.mp h1).1
      rw [List.getElem?_set_self hl, h1]
    · rw [set_ne' n]
  rw [e] at st2
  exact st2
end
end Dt
/-! Dt2: judgements, expressions. -/
namespace Dt
open PySem PySem.Spec PyProof.Rows L2

/-! ### raw readings -/
section
variable {X : Cx}
def bE (X : Cx) (e : Expr) : TE := fun σ H Q => ∀ pins s, Inv X pins σ H s → wpAny (model X.prog X.w) X.A (eval e X.env) (EP X pins σ Q) X.xe s
def bT (X : Cx) (e : Expr) : TT := fun σ H Q => ∀ pins s, Inv X pins σ H s → wpAny (model X.prog X.w) X.A (isTrue e X.env (eval e X.env)) (TP X pins σ Q) X.xe s
def bA (X : Cx) (es : List Expr) : TA := fun σ H Q => ∀ (pos : Pos) pins s, Inv X pins σ H s → wpAny (model X.prog X.w) X.A (spliced (backTo pos (starEach es X.env))) (AP X pins σ Q) X.xe s
def bS (X : Cx) (st : Stmt) : TS := fun D σ H => ∀ pins s, Inv X pins σ H s → wpAny (model X.prog X.w) X.A (exec st X.env) (SP X pins D) X.xe s
def bSs (X : Cx) (st : List Stmt) : TS := fun D σ H => ∀ pins s, Inv X pins σ H s → wpAny (model X.prog X.w) X.A (execs st X.env) (SP X pins D) X.xe s
def bG (X : Cx) (tg : Expr) : TG := fun v σ H Q => ∀ pins s u, Inv X pins σ H s → RelV v u → wpAny (model X.prog X.w) X.A (assign tg X.env u) (fun _ s' => ∃ σ' H', Inv X pins σ' H' s' ∧ Q σ' H') X.xe s
theorem pe_b {e : Expr} : PE X e (bE X e) := ⟨fun pins s _ _ _ I h => h pins s I⟩
theorem pt_b {e : Expr} : PT X e (bT X e) := ⟨fun pins s _ _ _ I h => h pins s I⟩
theorem pa_b {es : List Expr} : PA X es (bA X es) := ⟨fun pos pins s _ _ _ I h => h pos pins s I⟩
theorem ps_b {st : Stmt} : PS X st (bS X st) := ⟨fun pins s _ _ _ I h => h pins s I⟩
theorem pss_b {st : List Stmt} : PSs X st (bSs X st) := ⟨fun pins s _ _ _ I h => h pins s I⟩
theorem pg_b {tg : Expr} : PG X tg (bG X tg) := ⟨fun pins s _ _ _ u _ I r h => h pins s u I r⟩
theorem PE_.b {e : Expr} {t : TE} {σ : L2.St} {H : Hp} {Q : VK} (p : PE X e t) (h : t σ H Q) : bE X e σ H Q := fun pins s I => p.run pins s σ H Q I h
theorem PT_.b {e : Expr} {t : TT} {σ : L2.St} {H : Hp} {Q : Bool → Hp → Prop} (p : PT X e t) (h : t σ H Q) : bT X e σ H Q := fun pins s I => p.run pins s σ H Q I h
theorem PA_.b {es : List Expr} {t : TA} {σ : L2.St} {H : Hp} {Q : List V → Hp → Prop} (p : PA X es t) (h : t σ H Q) : bA X es σ H Q := fun pos pins s I => p.run pos pins s σ H Q I h
theorem PS_.b {st : Stmt} {t : TS} {σ : L2.St} {H : Hp} {Dn : Ends} (p : PS X st t) (h : t Dn σ H) : bS X st Dn σ H := fun pins s I => p.run pins s σ H Dn I h
theorem PSs_.b {st : List Stmt} {t : TS} {σ : L2.St} {H : Hp} {Dn : Ends} (p : PSs X st t) (h : t Dn σ H) : bSs X st Dn σ H := fun pins s I => p.run pins s σ H Dn I h
theorem PG_.b {tg : Expr} {t : TG} {v : V} {σ : L2.St} {H : Hp} {Q : L2.St → Hp → Prop} (p : PG X tg t) (h : t v σ H Q) : bG X tg v σ H Q := fun pins s u I r => p.run pins s σ H v u Q I r h
theorem bE_mono {e : Expr} {σ : L2.St} {H : Hp} {Q Q' : VK} (h : bE X e σ H Q) (k : ∀ v H, Q v H → Q' v H) : bE X e σ H Q' := fun pins s I =>
  thn (h pins s I) fun _ _ ⟨v, H', I', r, q⟩ => ⟨v, H', I', r, k v H' q⟩
theorem bT_mono {e : Expr} {σ : L2.St} {H : Hp} {Q Q' : Bool → Hp → Prop} (h : bT X e σ H Q) (k : ∀ v H, Q v H → Q' v H) : bT X e σ H Q' := fun pins s I =>
  thn (h pins s I) fun _ _ ⟨H', I', q⟩ => ⟨H', I', k _ H' q⟩
end

/-! ### what holds of a context -/
structure Gd (X : Cx) (k : Nat) : Prop where
  calm : X.calm = true
  nd : X.N.Nodup
  room : Room k X.A
  xe : X.xe = fun _ _ => False
theorem Gd.own {X : Cx} {k : Nat} (g : Gd X k) : PassesOwn (model X.prog X.w) X.A X.env X.xe := by
  rw [g.xe]
  exact PassesOwn.never
/-- names and scope -/
structure Sc (X : Cx) (N : List Str) (sc : Scope) : Prop where
  N : X.N = N
  s : X.env.scope = sc

def RepB (K : PySem.W.Frag) (G : Gh) (F H : Hp) (v : V) (d : D) : Prop := Rep K F v d ∨ ∃ a, v = .ref a ∧ OwnAt K F H a d ∧ G.bx ≠ some a
theorem RepB.mono {K : PySem.W.Frag} {G : Gh} {F H F' H' : Hp} {v : V} {d : D} (r : RepB K G F H v d) (le : Le G F H F' H') : RepB K G F' H' v d := by
  rcases r with r | ⟨a, e, o, n⟩
  · exact .inl (r.mono le.f)
  · exact .inr ⟨a, e, o.mono le.f fun u q => le.h a u q n, n⟩

structure DQ {α : Type} (X : Cx) (G : Gh) (ρ : List Sl) (T : TE) (w : W α) (enc : α → D) : Prop where
  mono : Mono w
  run : ∀ σ F H Q, Sta X.K G ρ σ F H → w (fun x => ∀ v F' H', Sta X.K G ρ σ F' H' → Le G F H F' H' → Rep X.K F' v (enc x) → Q v H') → T σ H Q
abbrev DE {α : Type} (X : Cx) (G : Gh) (ρ : List Sl) (e : Expr) (w : W α) (enc : α → D) : Prop := DQ X G ρ (bE X e) w enc
structure DB {α : Type} (X : Cx) (G : Gh) (ρ : List Sl) (e : Expr) (w : W α) (enc : α → D) : Prop where
  mono : Mono w
  run : ∀ σ F H Q, Sta X.K G ρ σ F H → w (fun x => ∀ v F' H', Sta X.K G ρ σ F' H' → Le G F H F' H' → RepB X.K G F' H' v (enc x) → Q v H') → bE X e σ H Q
/-- a new list, not frozen -/
structure LQ {α : Type} (X : Cx) (G : Gh) (ρ : List Sl) (T : TE) (w : W α) (enc : α → D) : Prop where
  mono : Mono w
  run : ∀ σ F H Q, Sta X.K G ρ σ F H → w (fun x => ∀ a F' H', Sta X.K G ρ σ F' H' → Le G F H F' H' → H a = none → F' a = none → OwnAt X.K F' H' a (enc x) → Q (.ref a) H') → T σ H Q
abbrev DL {α : Type} (X : Cx) (G : Gh) (ρ : List Sl) (e : Expr) (w : W α) (enc : α → D) : Prop := LQ X G ρ (bE X e) w enc
structure DT (X : Cx) (G : Gh) (ρ : List Sl) (e : Expr) (w : W Bool) : Prop where
  mono : Mono w
  run : ∀ σ F H Q, Sta X.K G ρ σ F H → w (fun b => ∀ F' H', Sta X.K G ρ σ F' H' → Le G F H F' H' → Q b H') → bT X e σ H Q
/-- arguments, frozen -/
structure DA (X : Cx) (G : Gh) (ρ : List Sl) (es : List Expr) (w : W (List D)) : Prop where
  mono : Mono w
  run : ∀ σ F H Q, Sta X.K G ρ σ F H → w (fun ds => ∀ vs F' H', Sta X.K G ρ σ F' H' → Le G F H F' H' → Reps X.K F' vs ds → Q vs H') → bA X es σ H Q

section
variable {X : Cx} {G : Gh} {ρ : List Sl} {α β γ : Type} {T : TE} {e a b c : Expr} {w : W α} {wa : W α} {wb : W β} {ea : α → D} {eb : β → D} {ec : γ → D} {enc : α → D} {k : Nat}
theorem DQ.db (h : DE X G ρ e w enc) : DB X G ρ e w enc := ⟨h.mono, fun σ F H Q st q => h.run σ F H Q st (h.mono _ _ (fun x q v F' H' s l r => q v F' H' s l (.inl r)) q)⟩
theorem LQ.db (h : DL X G ρ e w enc) : DB X G ρ e w enc := ⟨h.mono, fun σ F H Q st q => h.run σ F H Q st (h.mono _ _ (fun x q a F' H' s l n nf o => q _ F' H' s l (.inr ⟨a, rfl, o, (st.hn n).2.1⟩)) q)⟩
theorem LQ.de (h : LQ X G ρ T w enc) : DQ X G ρ T w enc := ⟨h.mono, fun σ F H Q st q => h.run σ F H Q st (h.mono _ _ (fun x q a F' H' s l n nf o => by
  obtain ⟨u, hu⟩ := o.some
  obtain ⟨h0, hb, _⟩ := st.hn n
  refine q _ (upd F' a u) H' (s.freeze hu h0 hb nf fun j d e z => ?_) ⟨l.f.trans (sub_upd nf), l.h, fun b u e => by
    by_cases z : b = a
    · subst z; exact .inr n
    · rw [upd_ne z] at e; exact l.n b u e, l.b⟩ (o.rep (sub_upd nf) fun o' z => ?_)
  · obtain ⟨x, h1, b, h2, ow, _⟩ := st.sl j _ e
    rw [h1, h2] at z
    cases z
    obtain ⟨u', hu'⟩ := ow.some
    rw [n] at hu'
    cases hu'
  · rw [hu] at z
    cases z
    exact upd_same) q)⟩
theorem DQ.conv {w' : W α} (h : DQ X G ρ T w enc) (he : w = w') : DQ X G ρ T w' enc := he ▸ h
theorem DQ.map {enc' : β → D} {f : α → β} (h : DQ X G ρ T w enc) (hf : ∀ x, enc' (f x) = enc x) : DQ X G ρ T (bnd w fun x => ret (f x)) enc' :=
  ⟨mono_bnd h.mono fun _ => mono_ret _, fun σ F H Q st q => h.run σ F H Q st (h.mono _ _ (fun x q v F' H' s l r => q v F' H' s l (by rw [hf]; exact r)) q)⟩
theorem DB.map {enc' : β → D} {f : α → β} (h : DB X G ρ e w enc) (hf : ∀ x, enc' (f x) = enc x) : DB X G ρ e (bnd w fun x => ret (f x)) enc' :=
  ⟨mono_bnd h.mono fun _ => mono_ret _, fun σ F H Q st q => h.run σ F H Q st (h.mono _ _ (fun x q v F' H' s l r => q v F' H' s l (by rw [hf]; exact r)) q)⟩

/-! ### names and constants -/
theorem de_var {N : List Str} {sc : Scope} {i : Nat} {x : Str} {pos : Pos} {y : α} (hs : Sc X N sc) (hN : N[i]? = some x) (hv : Vis sc x) (hρ : ρ[i]? = some (.fr (enc y)))
    (hd : (x == ("__debug__" : Str)) = false := by decide) (hcd : (x == ("__classdict__" : Str)) = false := by decide) : DE X G ρ (.Name x pos) (ret y) enc :=
  ⟨mono_ret _, fun σ F H Q st q => by
    obtain ⟨_, h1, v, rfl, r⟩ := st.sl i _ hρ
    exact PE_.b (pe_var (by rw [hs.N]; exact hN) (by rw [hs.s]; exact hv) hd hcd) ⟨v, h1, q v F H st (Le.refl _ _ _) r⟩⟩
theorem db_var {N : List Str} {sc : Scope} {i : Nat} {x : Str} {pos : Pos} {y : α} (hs : Sc X N sc) (hN : N[i]? = some x) (hv : Vis sc x) (hρ : ρ[i]? = some (.ow (enc y)))
    (hd : (x == ("__debug__" : Str)) = false := by decide) (hcd : (x == ("__classdict__" : Str)) = false := by decide) : DB X G ρ (.Name x pos) (ret y) enc :=
  ⟨mono_ret _, fun σ F H Q st q => by
    obtain ⟨_, h1, a, rfl, o, n, h0, hb⟩ := st.sl i _ hρ
    exact PE_.b (pe_var (by rw [hs.N]; exact hN) (by rw [hs.s]; exact hv) hd hcd) ⟨_, h1, q _ F H st (Le.refl _ _ _) (.inr ⟨a, rfl, o, hb⟩)⟩⟩
theorem de_c {v : V} {y : α} (p : PE X e (tC v)) (r : ∀ F, Rep X.K F v (enc y)) : DE X G ρ e (ret y) enc :=
  ⟨mono_ret _, fun σ F H Q st q => PE_.b p (q v F H st (Le.refl _ _ _) (r F))⟩
theorem de_int {i : Int} {j pos} : DE X G ρ (.Constant (.int i) j pos) (ret i) D.int := de_c pe_int fun _ => .int i
theorem de_bl {b : Bool} {j pos} : DE X G ρ (.Constant (.bool b) j pos) (ret b) D.bl := de_c pe_bl fun _ => .bl b
theorem de_str {x : Str} {j pos} (hz : x.length ≤ sizeLine := by decide) : DE X G ρ (.Constant (.str x) j pos) (ret x) D.str := de_c pe_str fun _ => .str x hz

def eU : Unit → D := fun _ => .non
def eO (e : α → D) : Option α → D
  | none => .non
  | some x => e x
def eL (e : α → D) (xs : List α) : D := .lst (xs.map e)
def eT (e : α → D) (xs : List α) : D := .tup (xs.map e)
def e2 (ea : α → D) (eb : β → D) (p : α × β) : D := .tup [ea p.1, eb p.2]
def e3 (ea : α → D) (eb : β → D) (ec : γ → D) (p : α × β × γ) : D := .tup [ea p.1, eb p.2.1, ec p.2.2]
theorem de_non {j pos} : DE X G ρ (.Constant .none j pos) (ret ()) eU := de_c pe_non fun _ => .non
theorem de_nonO {j pos} (enc : α → D) : DE X G ρ (.Constant .none j pos) (ret none) (eO enc) := de_c pe_non fun _ => .non
theorem DQ.so (h : DQ X G ρ T w enc) : DQ X G ρ T (bnd w fun x => ret (some x)) (eO enc) := h.map fun _ => rfl

/-! ### operations on values -/
theorem run2 (ha : DB X G ρ a wa ea) (hb : DB X G ρ b wb eb) {σ : L2.St} {F H : Hp} {R : V → V → Hp → Prop} (st : Sta X.K G ρ σ F H)
    (h : wa fun x => wb fun y => ∀ v u F' H', Sta X.K G ρ σ F' H' → Le G F H F' H' → RepB X.K G F' H' v (ea x) → RepB X.K G F' H' u (eb y) → R v u H') :
    bE X a σ H fun v H1 => bE X b σ H1 fun u H2 => R v u H2 :=
  ha.run σ F H _ st (ha.mono _ _ (fun x q v F1 H1 st1 l1 r1 => hb.run σ F1 H1 _ st1 (hb.mono _ _ (fun y q u F2 H2 st2 l2 r2 => q v u F2 H2 st2 (l1.trans l2) (r1.mono l2) r2) q)) h)
/-- e's reading out of a's and b's -/
abbrev Op2 (X : Cx) (T : TE) (a b : Expr) (r : R2) : Prop := ∀ σ H Q, (bE X a σ H fun v H1 => bE X b σ H1 fun u H2 => r v u H2 Q) → T σ H Q
abbrev Op1 (X : Cx) (T : TE) (a : Expr) (r : V → Hp → VK → Prop) : Prop := ∀ σ H Q, (bE X a σ H fun v H1 => r v H1 Q) → T σ H Q
/-- the answer is a plain value: the heap stays -/
theorem de_op2 {r : R2} {f : α → β → W γ} (E : Op2 X T a b r) (ha : DB X G ρ a wa ea) (hb : DB X G ρ b wb eb) (mf : ∀ x y, Mono (f x y))
    (snd : ∀ F H v u x y Q, Sub F H → RepB X.K G F H v (ea x) → RepB X.K G F H u (eb y) → f x y (fun z => ∀ v', Rep X.K F v' (ec z) → Q v' H) → r v u H Q) : DQ X G ρ T (bnd wa fun x => bnd wb fun y => f x y) ec :=
  ⟨mono_bnd ha.mono fun x => mono_bnd hb.mono fun y => mf x y, fun σ F H Q st q => E σ H Q (run2 ha hb st (ha.mono _ _ (fun x => hb.mono _ _ fun y q v u F' H' st' l rv ru =>
    snd F' H' v u x y Q st'.sub rv ru (mf x y _ _ (fun z q v' r' => q v' F' H' st' l r') q)) q))⟩
theorem de_op1 {r : V → Hp → VK → Prop} {f : α → W γ} (E : Op1 X T a r) (ha : DB X G ρ a wa ea) (mf : ∀ x, Mono (f x))
    (snd : ∀ F H v x Q, Sub F H → RepB X.K G F H v (ea x) → f x (fun z => ∀ v', Rep X.K F v' (ec z) → Q v' H) → r v H Q) : DQ X G ρ T (bnd wa f) ec :=
  ⟨mono_bnd ha.mono mf, fun σ F H Q st q => E σ H Q (ha.run σ F H _ st (ha.mono _ _ (fun x q v F' H' st' l rv => snd F' H' v x Q st'.sub rv (mf x _ _ (fun z q v' r' => q v' F' H' st' l r') q)) q))⟩
/-- the answer is a new object at any free place -/
theorem dl_op1 {r : V → Hp → VK → Prop} {f : α → W γ} (E : Op1 X T a r) (ha : DB X G ρ a wa ea) (mf : ∀ x, Mono (f x))
    (snd : ∀ F H v x Q, Sub F H → RepB X.K G F H v (ea x) → f x (fun z => ∀ p o, H p = none → OwnAt X.K F (upd H p o) p (ec z) → Q (.ref p) (upd H p o)) → r v H Q) : LQ X G ρ T (bnd wa f) ec :=
  ⟨mono_bnd ha.mono mf, fun σ F H Q st q => E σ H Q (ha.run σ F H _ st (ha.mono _ _ (fun x q v F' H' st' l rv => snd F' H' v x Q st'.sub rv (mf x _ _ (fun z q p o hp ow => by
    have z := st'.laid (o := o) hp
    refine q p F' (upd H' p o) z.1 (l.trans z.2) ?_ (st'.hn hp).2.2 ow
    cases y : H p with
    | none => rfl
    | some u =>
      by_cases hb : G.bx = some p
      · exact absurd hb (st'.hn hp).2.1
      · have := l.h p u y hb
        rw [hp] at this
        cases this) q)) q))⟩
theorem dl_op2 {r : R2} {f : α → β → W γ} (E : Op2 X T a b r) (ha : DB X G ρ a wa ea) (hb : DB X G ρ b wb eb) (mf : ∀ x y, Mono (f x y))
    (snd : ∀ F H v u x y Q, Sub F H → RepB X.K G F H v (ea x) → RepB X.K G F H u (eb y) → f x y (fun z => ∀ p o, H p = none → OwnAt X.K F (upd H p o) p (ec z) → Q (.ref p) (upd H p o)) → r v u H Q) : LQ X G ρ T (bnd wa fun x => bnd wb fun y => f x y) ec :=
  ⟨mono_bnd ha.mono fun x => mono_bnd hb.mono fun y => mf x y, fun σ F H Q st q => E σ H Q (run2 ha hb st (ha.mono _ _ (fun x => hb.mono _ _ fun y q v u F' H' st' l rv ru =>
    snd F' H' v u x y Q st'.sub rv ru (mf x y _ _ (fun z q p o hp ow => by
      have z := st'.laid (o := o) hp
      refine q p F' (upd H' p o) z.1 (l.trans z.2) ?_ (st'.hn hp).2.2 ow
      cases y : H p with
      | none => rfl
      | some u =>
        by_cases hb : G.bx = some p
        · exact absurd hb (st'.hn hp).2.1
        · have := l.h p u y hb
          rw [hp] at this
          cases this) q)) q))⟩
/-- .. a new tuple, frozen at once -/
theorem de_tup1 {r : V → Hp → VK → Prop} {f : α → W γ} (E : Op1 X T a r) (ha : DB X G ρ a wa ea) (mf : ∀ x, Mono (f x))
    (snd : ∀ F H v x Q, Sub F H → RepB X.K G F H v (ea x) → f x (fun z => (∀ v', Rep X.K F v' (ec z) → Q v' H) ∧ ∀ p o, H p = none → Rep X.K (upd F p o) (.ref p) (ec z) → Q (.ref p) (upd H p o)) → r v H Q) : DQ X G ρ T (bnd wa f) ec :=
  ⟨mono_bnd ha.mono mf, fun σ F H Q st q => E σ H Q (ha.run σ F H _ st (ha.mono _ _ (fun x q v F' H' st' l rv => snd F' H' v x Q st'.sub rv (mf x _ _ (fun z q => ⟨fun v' r' => q v' F' H' st' l r', fun p o hp r' => by
    have z := st'.laidF (o := o) hp
    exact q (.ref p) (upd F' p o) (upd H' p o) z.1 (l.trans z.2) r'⟩) q)) q))⟩
theorem de_tup2 {r : R2} {f : α → β → W γ} (E : Op2 X T a b r) (ha : DB X G ρ a wa ea) (hb : DB X G ρ b wb eb) (mf : ∀ x y, Mono (f x y))
    (snd : ∀ F H v u x y Q, Sub F H → RepB X.K G F H v (ea x) → RepB X.K G F H u (eb y) → f x y (fun z => (∀ v', Rep X.K F v' (ec z) → Q v' H) ∧ ∀ p o, H p = none → Rep X.K (upd F p o) (.ref p) (ec z) → Q (.ref p) (upd H p o)) → r v u H Q) : DQ X G ρ T (bnd wa fun x => bnd wb fun y => f x y) ec :=
  ⟨mono_bnd ha.mono fun x => mono_bnd hb.mono fun y => mf x y, fun σ F H Q st q => E σ H Q (run2 ha hb st (ha.mono _ _ (fun x => hb.mono _ _ fun y q v u F' H' st' l rv ru =>
    snd F' H' v u x y Q st'.sub rv ru (mf x y _ _ (fun z q => ⟨fun v' r' => q v' F' H' st' l r', fun p o hp r' => by
      have z := st'.laidF (o := o) hp
      exact q (.ref p) (upd F' p o) (upd H' p o) z.1 (l.trans z.2) r'⟩) q)) q))⟩

theorem op2_bin {op : Operator} {r : R2} {pos : Pos} (ho : OpR X (binaryOp op) r) : Op2 X (bE X (.BinOp a op b pos)) a b r := fun _ _ _ h => PE_.b (pe_op ho pe_b pe_b) h
def bC (X : Cx) (op : CmpOp) (a b : Expr) : TE := fun σ H Q => ∀ pins s, Inv X pins σ H s →
  wpAny (model X.prog X.w) X.A (eval a X.env) (fun v s₁ => wpAny (model X.prog X.w) X.A (eval b X.env) (fun u s₂ => wpAny (model X.prog X.w) X.A (compareOp op v u) (EP X pins σ Q) X.xe s₂) X.xe s₁) X.xe s
theorem pc_b {op : CmpOp} : PC X op a b (bC X op a b) := ⟨fun pins s _ _ _ I h => h pins s I⟩
theorem PC_.r {op : CmpOp} {t : TE} {σ : L2.St} {H : Hp} {Q : VK} (p : PC X op a b t) (h : t σ H Q) : bC X op a b σ H Q := fun pins s I => p.run pins s σ H Q I h
/-- a comparison by values, for values and for tests -/
abbrev DC {α : Type} (X : Cx) (G : Gh) (ρ : List Sl) (op : CmpOp) (a b : Expr) (w : W α) (enc : α → D) : Prop := DQ X G ρ (bC X op a b) w enc
theorem op2_cmp {op : CmpOp} {r : R2} (ho : OpR X (compareOp op) r) : Op2 X (bC X op a b) a b r := fun σ H Q h pins s I => binT pe_b pe_b I h fun v u s2 x y H2 I2 rx ry q => ho pins s2 σ H2 x y v u Q I2 rx ry q
theorem DQ.ce {op : CmpOp} {pos : Pos} {w : W Bool} (h : DC X G ρ op a b w D.bl) (hm : behindInMarks op b = false := by first | exact nobehind _ (by decide) (by decide) | rfl) : DE X G ρ (.Compare a [op] [b] pos) w D.bl :=
  ⟨h.mono, fun σ F H Q st q => PE_.b (pe_cmp pc_b hm) (h.run σ F H Q st q)⟩
theorem DQ.ct {op : CmpOp} {pos : Pos} {w : W Bool} (h : DC X G ρ op a b w D.bl) (hm : behindInMarks op b = false := by first | exact nobehind _ (by decide) (by decide) | rfl) : DT X G ρ (.Compare a [op] [b] pos) w :=
  ⟨h.mono, fun σ F H Q st q => PT_.b (pt_cmp pc_b hm) (h.run σ F H _ st (h.mono _ _ (fun x q v F' H' st' l r => by
    cases r
    exact ⟨x, rfl, q F' H' st' l⟩) q))⟩
theorem op2_ix {r : R2} {pos : Pos} (hr : IxR X r) (hs : PlainIx b) : Op2 X (bE X (.Subscript a b pos)) a b r := fun _ _ _ h => PE_.b (pe_ix hr pe_b pe_b hs) h
theorem op1_un {op : UnaryOp} {r : V → Hp → VK → Prop} {pos : Pos} (ho : UnR X (unaryOp op) r) : Op1 X (bE X (.UnaryOp op a pos)) a r := fun _ _ _ h => PE_.b (pe_un ho pe_b) h
theorem op1_fn {id : String} {r : List V → Hp → VK → Prop} {x : Str} {p pos : Pos} (hc : CallR X (.builtin id) r) (hg : Gl X x) (hm : X.mg x = none) (hv : bootBuiltins x = some (.builtin id)) (hn : x ≠ "__name__" := by decide) (hdb : (x == ("__debug__" : Str)) = false := by decide)
    (he : starEach [a] X.env = (false, eval a X.env) :: starEach [] X.env := by rfl) : Op1 X (bE X (.Call (.Name x p) [a] [] pos)) a fun v => r [v] := fun _ _ _ h => PE_.b (pe_callB hc hg hm hv (pa_cons pe_b pa_nil he) hn hdb he) h
theorem op1_ty {T : String} {r : List V → Hp → VK → Prop} {x : Str} {p pos : Pos} (hc : CallR X (.type T) r) (hg : Gl X x) (hm : X.mg x = none) (hv : bootBuiltins x = some (.type T)) (hn : x ≠ "__name__" := by decide) (hdb : (x == ("__debug__" : Str)) = false := by decide)
    (he : starEach [a] X.env = (false, eval a X.env) :: starEach [] X.env := by rfl) : Op1 X (bE X (.Call (.Name x p) [a] [] pos)) a fun v => r [v] := fun _ _ _ h => PE_.b (pe_callTy hc hg hm hv (pa_cons pe_b pa_nil he) hn hdb he) h
theorem op2_fn {id : String} {r : List V → Hp → VK → Prop} {x : Str} {p pos : Pos} (hc : CallR X (.builtin id) r) (hg : Gl X x) (hm : X.mg x = none) (hv : bootBuiltins x = some (.builtin id)) (hn : x ≠ "__name__" := by decide) (hdb : (x == ("__debug__" : Str)) = false := by decide)
    (he : starEach [a, b] X.env = (false, eval a X.env) :: starEach [b] X.env := by rfl) (he2 : starEach [b] X.env = (false, eval b X.env) :: starEach [] X.env := by rfl) (hpl : (backTo pos (starEach [b] X.env)).any (·.1) = false := by rfl) :
    Op2 X (bE X (.Call (.Name x p) [a, b] [] pos)) a b fun v u => r [v, u] := fun _ _ _ h => PE_.b (pe_callB hc hg hm hv (pa_cons pe_b (pa_cons pe_b pa_nil he2) he) hn hdb he hpl) h
/-- a method's call -/
theorem op1_m {T id : String} {r : V → List V → Hp → VK → Prop} {name : Str} {apos cpos : Pos} (pa : PlainAttrs T) (slot : Slot T name id) (hty : typeOf (.builtin id) = pure (.type "method_descriptor")) (hm : MtR X id r)
    (hbase : attributeBase a name X.env (eval a X.env) = eval a X.env := by rfl) (hline : (apos.endLine == cpos.line) = true := by rfl) :
    Op1 X (bE X (.Call (.Attribute a name apos) [] [] cpos)) a fun v H Q => tyV X.K T v H ∧ r v [] H Q := fun _ _ _ h => PE_.b (pe_bm0 pa slot hty hm pe_b hbase hline) h

/-! ### ints -/
theorem RepB.int {K : PySem.W.Frag} {F H : Hp} {v : V} {i : Int} (r : RepB K G F H v (.int i)) : v = .int i := by
  rcases r with r | ⟨a, _, o, _⟩
  · cases r; rfl
  · exact o.elim
theorem RepB.bl {K : PySem.W.Frag} {F H : Hp} {v : V} {i : Bool} (r : RepB K G F H v (.bl i)) : v = .bl i := by
  rcases r with r | ⟨a, _, o, _⟩
  · cases r; rfl
  · exact o.elim
theorem RepB.str {K : PySem.W.Frag} {F H : Hp} {v : V} {i : Str} (r : RepB K G F H v (.str i)) : v = .str i ∧ i.length ≤ sizeLine := by
  rcases r with r | ⟨a, _, o, _⟩
  · cases r with
    | str _ z => exact ⟨rfl, z⟩
  · exact o.elim
theorem RepB.non {K : PySem.W.Frag} {F H : Hp} {v : V} (r : RepB K G F H v .non) : v = .non := by
  rcases r with r | ⟨a, _, o, _⟩
  · cases r; rfl
  · exact o.elim
theorem RepB.lst {K : PySem.W.Frag} {F H : Hp} {v : V} {ds : List D} (s : Sub F H) (r : RepB K G F H v (.lst ds)) : ∃ p vs, v = .ref p ∧ H p = some (.lst vs) ∧ Reps K F vs ds ∧ ds.length ≤ sizeLine := by
  rcases r with r | ⟨a, e, ⟨vs, h, r, z⟩, _⟩
  · cases r with
    | lst h r z => exact ⟨_, _, rfl, s _ _ h, r, z⟩
  · exact ⟨a, vs, e, h, r, z⟩
theorem RepB.tup {K : PySem.W.Frag} {F H : Hp} {v : V} {ds : List D} (s : Sub F H) (r : RepB K G F H v (.tup ds)) : ∃ p vs, v = .ref p ∧ H p = some (.tup vs) ∧ Reps K F vs ds ∧ ds.length ≤ sizeLine := by
  rcases r with r | ⟨a, e, o, _⟩
  · cases r with
    | tup h r z => exact ⟨_, _, rfl, s _ _ h, r, z⟩
  · exact o.elim
theorem RepB.tupF {K : PySem.W.Frag} {F H : Hp} {v : V} {ds : List D} (r : RepB K G F H v (.tup ds)) : ∃ p vs, v = .ref p ∧ F p = some (.tup vs) ∧ Reps K F vs ds ∧ ds.length ≤ sizeLine := by
  rcases r with r | ⟨a, e, o, _⟩
  · cases r with
    | tup h r z => exact ⟨_, _, rfl, h, r, z⟩
  · exact o.elim
section
variable {wa wb : W Int} {pos : Pos}
/-- i op j by a rule on two ints -/
theorem de_ii {r : R2} {f : Int → Int → W γ} (E : Op2 X T a b r) (ha : DB X G ρ a wa D.int) (hb : DB X G ρ b wb D.int) (mf : ∀ x y, Mono (f x y))
    (snd : ∀ F H x y Q, f x y (fun z => ∀ v', Rep X.K F v' (ec z) → Q v' H) → r (.int x) (.int y) H Q) : DQ X G ρ T (bnd wa fun x => bnd wb fun y => f x y) ec :=
  de_op2 E ha hb mf fun F H v u x y Q s rv ru q => by
    obtain rfl := rv.int
    obtain rfl := ru.int
    exact snd F H x y Q q
theorem de_add (ha : DB X G ρ a wa D.int) (hb : DB X G ρ b wb D.int) : DE X G ρ (.BinOp a .Add b pos) (bnd wa fun x => bnd wb fun y => ret (x + y)) D.int :=
  de_ii (op2_bin op_add) ha hb (fun _ _ => mono_ret _) fun F H x y Q q => ⟨x, y, rfl, rfl, q _ (.int _)⟩
theorem de_sub (ha : DB X G ρ a wa D.int) (hb : DB X G ρ b wb D.int) : DE X G ρ (.BinOp a .Sub b pos) (bnd wa fun x => bnd wb fun y => ret (x - y)) D.int :=
  de_ii (op2_bin op_sub) ha hb (fun _ _ => mono_ret _) fun F H x y Q q => ⟨x, y, rfl, rfl, q _ (.int _)⟩
end
end
/-- under p -/
def grd {α : Type} (p : Prop) (w : W α) : W α := fun Φ => p ∧ w Φ
def lft {α : Type} (o : Option α) : W α := fun Φ => ∃ x, o = some x ∧ Φ x
theorem mono_grd {α : Type} {p : Prop} {w : W α} (h : Mono w) : Mono (grd p w) := fun P Q i q => ⟨q.1, h P Q i q.2⟩
theorem mono_lft {α : Type} (o : Option α) : Mono (lft o) := fun P Q i ⟨x, e, q⟩ => ⟨x, e, i x q⟩
theorem grd_of {α : Type} {p : Prop} {w : W α} (h : p) : grd p w = w := funext fun Φ => propext ⟨fun q => q.2, fun q => ⟨h, q⟩⟩
@[simp] theorem lft_some {α : Type} (x : α) : lft (some x) = ret x := funext fun Φ => propext ⟨fun ⟨y, e, q⟩ => by cases e; exact q, fun q => ⟨x, rfl, q⟩⟩
@[simp] theorem grd_bnd {α β : Type} (p : Prop) (w : W α) (f : α → W β) : bnd (grd p w) f = grd p (bnd w f) := rfl
def wMul (x y : Int) : W Int := grd ((-(2 ^ 64) < x ∧ x < 2 ^ 64) ∨ (-(2 ^ 64) < y ∧ y < 2 ^ 64)) (ret (x * y))
def wDiv (x y : Int) : W Int := grd (y ≠ 0 ∧ y.natAbs < 1073741824) (ret (x.fdiv y))
def wMod (x y : Int) : W Int := grd (y ≠ 0) (ret (x.fmod y))
def wPow (x y : Int) : W Int := grd (0 ≤ y ∧ y ≤ 1000000 ∧ x.natAbs < 2 ^ 64) (ret (x ^ y.toNat))
section
variable {X : Cx} {G : Gh} {ρ : List Sl} {e a b : Expr} {wa wb : W Int} {pos : Pos}
theorem de_mul (ha : DB X G ρ a wa D.int) (hb : DB X G ρ b wb D.int) : DE X G ρ (.BinOp a .Mult b pos) (bnd wa fun x => bnd wb fun y => wMul x y) D.int :=
  de_ii (op2_bin op_mul) ha hb (fun _ _ => mono_grd (mono_ret _)) fun F H x y Q q => ⟨x, y, rfl, rfl, q.1, q.2 _ (.int _)⟩
theorem de_div (ha : DB X G ρ a wa D.int) (hb : DB X G ρ b wb D.int) : DE X G ρ (.BinOp a .FloorDiv b pos) (bnd wa fun x => bnd wb fun y => wDiv x y) D.int :=
  de_ii (op2_bin op_fdivN) ha hb (fun _ _ => mono_grd (mono_ret _)) fun F H x y Q q => ⟨x, y, rfl, rfl, q.1, q.2 _ (.int _)⟩
theorem de_mod (ha : DB X G ρ a wa D.int) (hb : DB X G ρ b wb D.int) : DE X G ρ (.BinOp a .Mod b pos) (bnd wa fun x => bnd wb fun y => wMod x y) D.int :=
  de_ii (op2_bin op_modN) ha hb (fun _ _ => mono_grd (mono_ret _)) fun F H x y Q q => ⟨x, y, rfl, rfl, q.1, q.2 _ (.int _)⟩
theorem de_pow (ha : DB X G ρ a wa D.int) (hb : DB X G ρ b wb D.int) : DE X G ρ (.BinOp a .Pow b pos) (bnd wa fun x => bnd wb fun y => wPow x y) D.int :=
  de_ii (op2_bin op_pow) ha hb (fun _ _ => mono_grd (mono_ret _)) fun F H x y Q q => ⟨x, y, rfl, rfl, q.1, q.2 _ (.int _)⟩
theorem de_neg (ha : DB X G ρ a wa D.int) : DE X G ρ (.UnaryOp .USub a pos) (bnd wa fun x => ret (-x)) D.int :=
  de_op1 (op1_un un_neg) ha (fun _ => mono_ret _) fun F H v x Q s rv q => by
    obtain rfl := rv.int
    exact ⟨x, rfl, q _ (.int _)⟩
theorem dc_lt (ha : DB X G ρ a wa D.int) (hb : DB X G ρ b wb D.int) : DC X G ρ .Lt a b (bnd wa fun x => bnd wb fun y => ret (decide (x < y))) D.bl :=
  de_ii (op2_cmp op_lt) ha hb (fun _ _ => mono_ret _) fun F H x y Q q => ⟨x, y, rfl, rfl, q _ (.bl _)⟩
theorem dc_le (ha : DB X G ρ a wa D.int) (hb : DB X G ρ b wb D.int) : DC X G ρ .LtE a b (bnd wa fun x => bnd wb fun y => ret (decide (x ≤ y))) D.bl :=
  de_ii (op2_cmp op_le) ha hb (fun _ _ => mono_ret _) fun F H x y Q q => ⟨x, y, rfl, rfl, q _ (.bl _)⟩
theorem dc_gt (ha : DB X G ρ a wa D.int) (hb : DB X G ρ b wb D.int) : DC X G ρ .Gt a b (bnd wa fun x => bnd wb fun y => ret (decide (y < x))) D.bl :=
  de_ii (op2_cmp op_gt) ha hb (fun _ _ => mono_ret _) fun F H x y Q q => ⟨x, y, rfl, rfl, q _ (.bl _)⟩
theorem dc_ge (ha : DB X G ρ a wa D.int) (hb : DB X G ρ b wb D.int) : DC X G ρ .GtE a b (bnd wa fun x => bnd wb fun y => ret (decide (y ≤ x))) D.bl :=
  de_ii (op2_cmp op_ge) ha hb (fun _ _ => mono_ret _) fun F H x y Q q => ⟨x, y, rfl, rfl, q _ (.bl _)⟩
theorem dc_eqI (ha : DB X G ρ a wa D.int) (hb : DB X G ρ b wb D.int) : DC X G ρ .Eq a b (bnd wa fun x => bnd wb fun y => ret (decide (x = y))) D.bl :=
  de_ii (op2_cmp op_eq) ha hb (fun _ _ => mono_ret _) fun F H x y Q q => ⟨rfl, by
    have e : decide (V.int x = V.int y) = decide (x = y) := by simp
    rw [e]
    exact q _ (.bl _)⟩
theorem dc_neI (ha : DB X G ρ a wa D.int) (hb : DB X G ρ b wb D.int) : DC X G ρ .NotEq a b (bnd wa fun x => bnd wb fun y => ret (!decide (x = y))) D.bl :=
  de_ii (op2_cmp op_ne) ha hb (fun _ _ => mono_ret _) fun F H x y Q q => ⟨rfl, by
    have e : decide (V.int x = V.int y) = decide (x = y) := by simp
    rw [e]
    exact q _ (.bl _)⟩
end
end Dt
/-! Dt3: tests, arguments, displays, statements, loops. -/
namespace Dt
open PySem PySem.Spec PyProof.Rows L2

section
variable {X : Cx} {G : Gh} {ρ : List Sl} {α β γ : Type} {T : TE} {e a b c : Expr} {es : List Expr} {w : W α} {wa : W α} {wb : W β} {ea : α → D} {eb : β → D} {ec : γ → D} {enc : α → D} {k : Nat}
/-! ### tests -/
theorem dt_val {w : W Bool} (h : DE X G ρ e w D.bl) (he : ∀ whole, isTrue e X.env whole = (do let v ← whole; standAt e.pos; holding [v] (truthy v)) := by intro _; rfl) : DT X G ρ e w :=
  ⟨h.mono, fun σ F H Q st q => PT_.b (pt_val pe_b he) (h.run σ F H _ st (h.mono _ _ (fun x q v F' H' st' l r => by
    cases r
    exact ⟨x, rfl, q F' H' st' l⟩) q))⟩
theorem dt_not {w : W Bool} {pos : Pos} (h : DT X G ρ a w) : DT X G ρ (.UnaryOp .Not a pos) (bnd w fun x => ret (!x)) :=
  ⟨mono_bnd h.mono fun _ => mono_ret _, fun σ F H Q st q => PT_.b (pt_not pt_b) (h.run σ F H _ st (h.mono _ _ (fun x q F' H' st' l => q F' H' st' l) q))⟩
def bW (X : Cx) (e : Expr) : TT := fun σ H Q => ∀ (whole : Sem Value) pins s, Inv X pins σ H s → wpAny (model X.prog X.w) X.A (isTrue e X.env whole) (TP X pins σ Q) X.xe s
theorem pw_b : PW X e (bW X e) := ⟨fun wh pins s _ _ _ I h => h wh pins s I⟩
theorem PW_.r {t : TT} {σ : L2.St} {H : Hp} {Q : Bool → Hp → Prop} (p : PW X e t) (h : t σ H Q) : bW X e σ H Q := fun wh pins s I => p.run wh pins s σ H Q I h
structure DW (X : Cx) (G : Gh) (ρ : List Sl) (e : Expr) (w : W Bool) : Prop where
  mono : Mono w
  run : ∀ σ F H Q, Sta X.K G ρ σ F H → w (fun b => ∀ F' H', Sta X.K G ρ σ F' H' → Le G F H F' H' → Q b H') → bW X e σ H Q
theorem DW.t {w : W Bool} (h : DW X G ρ e w) : DT X G ρ e w := ⟨h.mono, fun σ F H Q st q => PT_.b pw_b.pt (h.run σ F H Q st q)⟩
section
variable {wa wr : W Bool} {rest : List Expr} {pos : Pos}
theorem dw_and1 (h : DT X G ρ a wa) : DW X G ρ (.BoolOp .And [a] pos) wa := ⟨h.mono, fun σ F H Q st q => PW_.r (pw_and1 pt_b) (h.run σ F H Q st q)⟩
theorem dw_or1 (h : DT X G ρ a wa) : DW X G ρ (.BoolOp .Or [a] pos) wa := ⟨h.mono, fun σ F H Q st q => PW_.r (pw_or1 pt_b) (h.run σ F H Q st q)⟩
def wAnd (wa wr : W Bool) : W Bool := bnd wa fun x => if x then wr else ret false
def wOr (wa wr : W Bool) : W Bool := bnd wa fun x => if x then ret true else wr
theorem mono_and (ha : Mono wa) (hr : Mono wr) : Mono (wAnd wa wr) := mono_bnd ha fun _ => mono_ite hr (mono_ret _)
theorem mono_or (ha : Mono wa) (hr : Mono wr) : Mono (wOr wa wr) := mono_bnd ha fun _ => mono_ite (mono_ret _) hr
theorem dw_and (h : DT X G ρ a wa) (hr : DW X G ρ (.BoolOp .And (b :: rest) pos) wr) : DW X G ρ (.BoolOp .And (a :: b :: rest) pos) (wAnd wa wr) :=
  ⟨mono_and h.mono hr.mono, fun σ F H Q st q => PW_.r (pw_and pt_b pw_b) (h.run σ F H _ st (h.mono _ _ (fun x q F' H' st' l => by
    cases x with
    | true => exact hr.run σ F' H' Q st' (hr.mono _ _ (fun y q F2 H2 st2 l2 => q F2 H2 st2 (l.trans l2)) q)
    | false => exact q F' H' st' l) q))⟩
theorem dw_or (h : DT X G ρ a wa) (hr : DW X G ρ (.BoolOp .Or (b :: rest) pos) wr) : DW X G ρ (.BoolOp .Or (a :: b :: rest) pos) (wOr wa wr) :=
  ⟨mono_or h.mono hr.mono, fun σ F H Q st q => PW_.r (pw_or pt_b pw_b) (h.run σ F H _ st (h.mono _ _ (fun x q F' H' st' l => by
    cases x with
    | false => exact hr.run σ F' H' Q st' (hr.mono _ _ (fun y q F2 H2 st2 l2 => q F2 H2 st2 (l.trans l2)) q)
    | true => exact q F' H' st' l) q))⟩
theorem de_one {op} (h : DE X G ρ a wa D.bl) : DE X G ρ (.BoolOp op [a] pos) wa D.bl := ⟨h.mono, fun σ F H Q st q => PE_.b (pe_one pe_b) (h.run σ F H Q st q)⟩
theorem de_and (h : DE X G ρ a wa D.bl) (hr : DE X G ρ (.BoolOp .And (b :: rest) pos) wr D.bl) : DE X G ρ (.BoolOp .And (a :: b :: rest) pos) (wAnd wa wr) D.bl :=
  ⟨mono_and h.mono hr.mono, fun σ F H Q st q => PE_.b (pe_and pe_b pe_b) (h.run σ F H _ st (h.mono _ _ (fun x q v F' H' st' l r => by
    cases r
    refine ⟨x, rfl, ?_⟩
    cases x with
    | true => exact hr.run σ F' H' Q st' (hr.mono _ _ (fun y q v F2 H2 st2 l2 r => q v F2 H2 st2 (l.trans l2) r) q)
    | false => exact q _ F' H' st' l (.bl _)) q))⟩
theorem de_or (h : DE X G ρ a wa D.bl) (hr : DE X G ρ (.BoolOp .Or (b :: rest) pos) wr D.bl) : DE X G ρ (.BoolOp .Or (a :: b :: rest) pos) (wOr wa wr) D.bl :=
  ⟨mono_or h.mono hr.mono, fun σ F H Q st q => PE_.b (pe_or pe_b pe_b) (h.run σ F H _ st (h.mono _ _ (fun x q v F' H' st' l r => by
    cases r
    refine ⟨x, rfl, ?_⟩
    cases x with
    | false => exact hr.run σ F' H' Q st' (hr.mono _ _ (fun y q v F2 H2 st2 l2 r => q v F2 H2 st2 (l.trans l2) r) q)
    | true => exact q _ F' H' st' l (.bl _)) q))⟩
theorem de_not (h : DE X G ρ a wa D.bl) : DE X G ρ (.UnaryOp .Not a pos) (bnd wa fun x => ret (!x)) D.bl :=
  ⟨mono_bnd h.mono fun _ => mono_ret _, fun σ F H Q st q => PE_.b (pe_not pe_b) (h.run σ F H _ st (h.mono _ _ (fun x q v F' H' st' l r => by
    cases r
    exact ⟨x, rfl, q _ F' H' st' l (.bl _)⟩) q))⟩
theorem de_if {wc : W Bool} {wa wb : W α} (hc : DT X G ρ c wc) (ha : DE X G ρ a wa enc) (hb : DE X G ρ b wb enc) : DE X G ρ (.IfExp c a b pos) (bnd wc fun x => if x then wa else wb) enc :=
  ⟨mono_bnd hc.mono fun _ => mono_ite ha.mono hb.mono, fun σ F H Q st q => PE_.b (pe_ifExp pt_b pe_b pe_b) (hc.run σ F H _ st (hc.mono _ _ (fun x q F' H' st' l => by
    cases x with
    | true => exact ha.run σ F' H' Q st' (ha.mono _ _ (fun y q v F2 H2 st2 l2 r => q v F2 H2 st2 (l.trans l2) r) q)
    | false => exact hb.run σ F' H' Q st' (hb.mono _ _ (fun y q v F2 H2 st2 l2 r => q v F2 H2 st2 (l.trans l2) r) q)) q))⟩
end

/-! ### is None -/
theorem rep_eO {K : PySem.W.Frag} {F H : Hp} {v : V} {x : Option α} (r : RepB K G F H v (eO enc x)) (hn : ∀ y, enc y ≠ .non) : decide (v = .non) = x.isNone := by
  cases x with
  | none =>
    obtain rfl := r.non
    rfl
  | some y =>
    have n : v ≠ .non := by
      intro e
      subst e
      rcases r with r | ⟨a, e, _⟩
      · generalize hd : eO enc (some y) = d at r
        cases r
        exact hn y hd
      · cases e
    simp [n]
theorem dc_isN {wa : W (Option α)} {j pos'} (ha : DB X G ρ a wa (eO enc)) (hn : ∀ y, enc y ≠ .non) : DC X G ρ .Is a (.Constant .none j pos') (bnd wa fun x => ret x.isNone) D.bl :=
  ⟨mono_bnd ha.mono fun _ => mono_ret _, fun σ F H Q st q => PC_.r (pc_isN pe_b) (ha.run σ F H _ st (ha.mono _ _ (fun x q v F' H' st' l r => by
    rw [rep_eO r hn]
    exact q _ F' H' st' l (.bl _)) q))⟩
theorem dc_notN {wa : W (Option α)} {j pos'} (ha : DB X G ρ a wa (eO enc)) (hn : ∀ y, enc y ≠ .non) : DC X G ρ .IsNot a (.Constant .none j pos') (bnd wa fun x => ret x.isSome) D.bl :=
  ⟨mono_bnd ha.mono fun _ => mono_ret _, fun σ F H Q st q => PC_.r (pc_notN pe_b) (ha.run σ F H _ st (ha.mono _ _ (fun x q v F' H' st' l r => by
    rw [rep_eO r hn]
    have e : (!x.isNone) = x.isSome := by cases x <;> rfl
    rw [e]
    exact q _ F' H' st' l (.bl _)) q))⟩

/-! ### arguments -/
theorem da_nil : DA X G ρ [] (ret []) := ⟨mono_ret _, fun σ F H Q st q => PA_.b pa_nil (q [] F H st (Le.refl _ _ _) .nil)⟩
theorem da_cons {wr : W (List D)} (h : DE X G ρ e w enc) (hr : DA X G ρ es wr) (hs : starEach (e :: es) X.env = (false, eval e X.env) :: starEach es X.env := by rfl) : DA X G ρ (e :: es) (bnd w fun x => bnd wr fun ds => ret (enc x :: ds)) :=
  ⟨mono_bnd h.mono fun _ => mono_bnd hr.mono fun _ => mono_ret _, fun σ F H Q st q => PA_.b (pa_cons pe_b pa_b hs) (h.run σ F H _ st (h.mono _ _ (fun x q v F' H' st' l r =>
    hr.run σ F' H' _ st' (hr.mono _ _ (fun ds q vs F2 H2 st2 l2 rs => q _ F2 H2 st2 (l.trans l2) (.cons (r.mono l2.f) rs)) q)) q))⟩
/-- items of one kind -/
theorem dA_len_nil : ∀ P : List D → Prop, (ret ([] : List D)) P → (ret ([] : List D)) fun ds => ds.length = 0 ∧ P ds := fun P q => ⟨rfl, q⟩
structure DH {α : Type} (X : Cx) (G : Gh) (ρ : List Sl) (es : List Expr) (w : W (List α)) (enc : α → D) : Prop where
  da : DA X G ρ es (bnd w fun xs => ret (xs.map enc))
  mono : Mono w
  len : ∀ P, w P → w fun xs => xs.length = es.length ∧ P xs
theorem dh_nil : DH X G ρ [] (ret []) enc := ⟨da_nil, mono_ret _, fun P q => ⟨rfl, q⟩⟩
theorem dh_cons {wr : W (List α)} (h : DE X G ρ e w enc) (hr : DH X G ρ es wr enc) (hs : starEach (e :: es) X.env = (false, eval e X.env) :: starEach es X.env := by rfl) : DH X G ρ (e :: es) (bnd w fun x => bnd wr fun xs => ret (x :: xs)) enc :=
  ⟨da_cons h hr.da hs, mono_bnd h.mono fun _ => mono_bnd hr.mono fun _ => mono_ret _, fun P q => h.mono _ _ (fun x q => hr.mono _ _ (fun xs q => ⟨congrArg (· + 1) q.1, q.2⟩) (hr.len _ q)) q⟩
section
variable {pos : Pos} {wd : W (List D)}
theorem de_tupD {x1} (h : DA X G ρ es wd) (hl : es.length ≤ 1000) (hd : ∀ P, wd P → wd fun ds => ds.length ≤ 1000 ∧ P ds) : DE X G ρ (.Tuple es x1 pos) wd D.tup :=
  ⟨h.mono, fun σ F H Q st q => PE_.b (pe_tup pa_b) (h.run σ F H _ st (h.mono _ _ (fun ds ⟨hz, q⟩ vs F' H' st' l rs => by
    refine ⟨by rw [rs.len]; exact Nat.le_trans hz (by decide), fun p hp => ?_⟩
    have z := st'.laidF (o := .tup vs) hp
    exact q _ _ _ z.1 (l.trans z.2) (.tup upd_same (rs.mono z.2.f) (Nat.le_trans hz (by decide)))) (hd _ q)))⟩
theorem dl_listD (h : DA X G ρ es wd) (hd : ∀ P, wd P → wd fun ds => ds.length ≤ 1000 ∧ P ds) : DL X G ρ (.List es pos) wd D.lst :=
  ⟨h.mono, fun σ F H Q st q => PE_.b (pe_lst pa_b) (h.run σ F H _ st (h.mono _ _ (fun ds ⟨hz, q⟩ vs F' H' st' l rs => by
    refine ⟨by rw [rs.len]; exact Nat.le_trans hz (by decide), fun p hp => ?_⟩
    have z := st'.laid (o := .lst vs) hp
    refine q p _ _ z.1 (l.trans z.2) ?_ (st'.hn hp).2.2 ⟨vs, upd_same, rs, Nat.le_trans hz (by decide)⟩
    cases y : H p with
    | none => rfl
    | some u =>
      have := l.h p u y (st'.hn hp).2.1
      rw [hp] at this
      cases this) (hd _ q)))⟩
theorem de_pair {x1} (ha : DE X G ρ a wa ea) (hb : DE X G ρ b wb eb) (hs : starEach [a, b] X.env = (false, eval a X.env) :: starEach [b] X.env := by rfl) (hs2 : starEach [b] X.env = (false, eval b X.env) :: starEach [] X.env := by rfl) :
    DE X G ρ (.Tuple [a, b] x1 pos) (bnd wa fun x => bnd wb fun y => ret (x, y)) (e2 ea eb) := by
  have h := de_tupD (x1 := x1) (pos := pos) (da_cons ha (da_cons hb da_nil hs2) hs) (by show 2 ≤ 1000; decide) fun P q => ha.mono _ _ (fun x q => hb.mono _ _ (fun y q => ⟨by show 2 ≤ 1000; decide, q⟩) q) q
  exact ⟨mono_bnd ha.mono fun _ => mono_bnd hb.mono fun _ => mono_ret _, fun σ F H Q st q => h.run σ F H Q st q⟩
theorem de_trip {x1} {wc : W γ} (ha : DE X G ρ a wa ea) (hb : DE X G ρ b wb eb) (hc : DE X G ρ c wc ec) (hs : starEach [a, b, c] X.env = (false, eval a X.env) :: starEach [b, c] X.env := by rfl) (hs2 : starEach [b, c] X.env = (false, eval b X.env) :: starEach [c] X.env := by rfl) (hs3 : starEach [c] X.env = (false, eval c X.env) :: starEach [] X.env := by rfl) :
    DE X G ρ (.Tuple [a, b, c] x1 pos) (bnd wa fun x => bnd wb fun y => bnd wc fun z => ret (x, y, z)) (e3 ea eb ec) := by
  have h := de_tupD (x1 := x1) (pos := pos) (da_cons ha (da_cons hb (da_cons hc da_nil hs3) hs2) hs) (by show 3 ≤ 1000; decide) fun P q => ha.mono _ _ (fun x q => hb.mono _ _ (fun y q => hc.mono _ _ (fun z q => ⟨by show 3 ≤ 1000; decide, q⟩) q) q) q
  exact ⟨mono_bnd ha.mono fun _ => mono_bnd hb.mono fun _ => mono_bnd hc.mono fun _ => mono_ret _, fun σ F H Q st q => h.run σ F H Q st q⟩
theorem de_tupH {x1} {w : W (List α)} (h : DH X G ρ es w enc) (hl : es.length ≤ 1000 := by decide) : DE X G ρ (.Tuple es x1 pos) w (eT enc) :=
  ⟨h.mono, fun σ F H Q st q => PE_.b (pe_tup pa_b) (h.da.run σ F H _ st (h.mono _ _ (fun ds ⟨hz', q⟩ vs F' H' st' l rs => by
    have hz : ds.length ≤ 1000 := hz' ▸ hl
    refine ⟨by rw [rs.len, List.length_map]; exact Nat.le_trans hz (by decide), fun p hp => ?_⟩
    have z := st'.laidF (o := .tup vs) hp
    exact q _ _ _ z.1 (l.trans z.2) (.tup upd_same (rs.mono z.2.f) (by rw [List.length_map]; exact Nat.le_trans hz (by decide)))) (h.len _ q)))⟩
theorem dl_list {w : W (List α)} (h : DH X G ρ es w enc) (hl : es.length ≤ 1000 := by decide) : DL X G ρ (.List es pos) w (eL enc) :=
  ⟨h.mono, fun σ F H Q st q => PE_.b (pe_lst pa_b) (h.da.run σ F H _ st (h.mono _ _ (fun ds ⟨hz', q⟩ vs F' H' st' l rs => by
    have hz : ds.length ≤ 1000 := hz' ▸ hl
    refine ⟨by rw [rs.len, List.length_map]; exact Nat.le_trans hz (by decide), fun p hp => ?_⟩
    have z := st'.laid (o := .lst vs) hp
    refine q p _ _ z.1 (l.trans z.2) ?_ (st'.hn hp).2.2 ⟨vs, upd_same, rs, by rw [List.length_map]; exact Nat.le_trans hz (by decide)⟩
    cases y : H p with
    | none => rfl
    | some u =>
      have := l.h p u y (st'.hn hp).2.1
      rw [hp] at this
      cases this) (h.len _ q)))⟩
end
end

/-! ### statements -/
inductive Fl (R S B : Type) where
  | nx (s : S) | rt (r : R) | bk (b : B) | ct (b : B)
inductive Wk : List Sl → List Sl → Prop where
  | nil : Wk [] []
  | k (s : Sl) {a b : List Sl} : Wk a b → Wk (s :: a) (s :: b)
  | d (s : Sl) {a b : List Sl} : Wk a b → Wk (s :: a) (.un :: b)
  | f (d : D) {a b : List Sl} : Wk a b → Wk (.ow d :: a) (.fr d :: b)
theorem Wk.refl : ∀ ρ, Wk ρ ρ
  | [] => .nil
  | s :: r => .k s (Wk.refl r)
section
variable {K : PySem.W.Frag} {G : Gh} {σ : L2.St} {H : Hp}
theorem set_mid {pre a : List Sl} {s t : Sl} : (pre ++ s :: a).set pre.length t = pre ++ t :: a := by
  rw [List.set_append_right _ _ (Nat.le_refl _), Nat.sub_self]
  rfl
theorem Sta.wkA {a b : List Sl} (w : Wk a b) : ∀ {pre : List Sl} {F : Hp}, Sta K G (pre ++ a) σ F H → ∃ F', Sub F F' ∧ Sta K G (pre ++ b) σ F' H := by
  induction w with
  | nil => exact fun {pre F} st => ⟨F, Sub.refl F, st⟩
  | @k s a b w ih =>
    intro pre F st
    have st' : Sta K G ((pre ++ [s]) ++ a) σ F H := by rw [List.append_assoc]; exact st
    obtain ⟨F', e, z⟩ := ih st'
    rw [List.append_assoc] at z
    exact ⟨F', e, z⟩
  | @d s a b w ih =>
    intro pre F st
    have st1 := st.drop pre.length
    rw [set_mid] at st1
    have st' : Sta K G ((pre ++ [.un]) ++ a) σ F H := by rw [List.append_assoc]; exact st1
    obtain ⟨F', e, z⟩ := ih st'
    rw [List.append_assoc] at z
    exact ⟨F', e, z⟩
  | @f d a b w ih =>
    intro pre F st
    obtain ⟨F1, e1, st1⟩ := st.frz (i := pre.length) (d := d) (by simp)
    rw [set_mid] at st1
    have st' : Sta K G ((pre ++ [.fr d]) ++ a) σ F1 H := by rw [List.append_assoc]; exact st1
    obtain ⟨F', e, z⟩ := ih st'
    rw [List.append_assoc] at z
    exact ⟨F', e1.trans e, z⟩
theorem Sta.wk {ρ ρ' : List Sl} (w : Wk ρ ρ') {F : Hp} (st : Sta K G ρ σ F H) : ∃ F', Sub F F' ∧ Sta K G ρ' σ F' H := Sta.wkA w (pre := []) st
end

def Post {R S B : Type} (X : Cx) (G : Gh) (eR : R → D) (eS : S → List Sl) (eB : B → List Sl) (F : Hp) (Dn : Ends) : Fl R S B → Prop
  | .nx s => ∀ σ' F' H', Sta X.K G (eS s) σ' F' H' → Sub F F' → Dn.nx σ' H'
  | .rt r => ∀ v F' H', Fin X.K G F' H' → Sub F F' → Rep X.K F' v (eR r) → Dn.rt v H'
  | .bk b => ∀ σ' F' H', Sta X.K G (eB b) σ' F' H' → Sub F F' → Dn.bk σ' H'
  | .ct b => ∀ σ' F' H', Sta X.K G (eB b) σ' F' H' → Sub F F' → Dn.ct σ' H'
theorem Post.mono {R S B : Type} {X : Cx} {G : Gh} {eR : R → D} {eS : S → List Sl} {eB : B → List Sl} {F F' : Hp} {Dn : Ends} (e : Sub F F') : ∀ {o : Fl R S B}, Post X G eR eS eB F Dn o → Post X G eR eS eB F' Dn o
  | .nx _, h => fun σ' F2 H2 st s => h σ' F2 H2 st (e.trans s)
  | .rt _, h => fun v F2 H2 st s r => h v F2 H2 st (e.trans s) r
  | .bk _, h => fun σ' F2 H2 st s => h σ' F2 H2 st (e.trans s)
  | .ct _, h => fun σ' F2 H2 st s => h σ' F2 H2 st (e.trans s)
structure DS {R S B : Type} (X : Cx) (G : Gh) (ρ : List Sl) (ss : List Stmt) (eR : R → D) (eS : S → List Sl) (eB : B → List Sl) (w : W (Fl R S B)) : Prop where
  mono : Mono w
  run : ∀ σ F H Dn, Sta X.K G ρ σ F H → w (Post X G eR eS eB F Dn) → bSs X ss Dn σ H

section
variable {X : Cx} {G : Gh} {ρ : List Sl} {α β γ : Type} {R S B S1 : Type} {eR : R → D} {eS : S → List Sl} {eB : B → List Sl} {e a b c : Expr} {es : List Expr} {st : Stmt} {rest : List Stmt} {w : W α} {enc : α → D} {k : Nat} {pos : Pos}
  {N : List Str} {sc : Scope} {i : Nat} {x : Str}
theorem ds_nil {s : S} (h : Wk ρ (eS s)) : DS X G ρ [] eR eS eB (ret (.nx s)) :=
  ⟨mono_ret _, fun σ F H Dn st q => by
    obtain ⟨F', e, st'⟩ := st.wk h
    exact PSs_.b pss_nil (q σ F' H st' e)⟩
/-- weaken the slots ahead -/
theorem ds_wk {ρ' : List Sl} {ss : List Stmt} {w : W (Fl R S B)} (h : Wk ρ ρ') (d : DS X G ρ' ss eR eS eB w) : DS X G ρ ss eR eS eB w :=
  ⟨d.mono, fun σ F H Dn st q => by
    obtain ⟨F', e, st'⟩ := st.wk h
    exact d.run σ F' H Dn st' (d.mono _ _ (fun o => Post.mono e) q)⟩
theorem DS.conv {ss : List Stmt} {w w' : W (Fl R S B)} (h : DS X G ρ ss eR eS eB w) (e : w = w') : DS X G ρ ss eR eS eB w' := e ▸ h
theorem ds_ret {e : Expr} {w : W R} (h : DE X G ρ e w eR) : DS X G ρ (.Return (some e) pos :: rest) eR eS eB (bnd w fun r => ret (.rt r)) :=
  ⟨mono_bnd h.mono fun _ => mono_ret _, fun σ F H Dn st q => PSs_.b (pss_cons (ps_ret pe_b) pss_b) (h.run σ F H _ st (h.mono _ _ (fun r q v F' H' st' l rp => q v F' H' st'.fin l.f rp) q))⟩
theorem ds_break {s : B} (h : Wk ρ (eB s)) : DS X G ρ (.Break pos :: rest) eR eS eB (ret (.bk s)) :=
  ⟨mono_ret _, fun σ F H Dn st q => by
    obtain ⟨F', e, st'⟩ := st.wk h
    exact PSs_.b (pss_cons ps_break pss_b) (q σ F' H st' e)⟩
theorem ds_cont {s : B} (h : Wk ρ (eB s)) : DS X G ρ (.Continue pos :: rest) eR eS eB (ret (.ct s)) :=
  ⟨mono_ret _, fun σ F H Dn st q => by
    obtain ⟨F', e, st'⟩ := st.wk h
    exact PSs_.b (pss_cons ps_continue pss_b) (q σ F' H st' e)⟩
/-- never reached -/
def nvr {α : Type} : W α := fun _ => False
theorem ds_never {ss : List Stmt} : DS X G ρ ss eR eS eB nvr := ⟨fun _ _ _ q => q, fun σ F H Dn st q => q.elim⟩
theorem ds_pass {wr : W (Fl R S B)} (hr : DS X G ρ rest eR eS eB wr) : DS X G ρ (.Pass pos :: rest) eR eS eB wr :=
  ⟨hr.mono, fun σ F H Dn st q => PSs_.b (pss_cons ps_pass pss_b) (hr.run σ F H Dn st q)⟩
theorem loc_fn (hs : Sc X N sc) (hf : X.fn x = true ∨ sc.names.lookup x = some .local) : X.fn x = true ∨ X.env.scope.names.lookup x = some .local := by
  rw [hs.s]
  exact hf
/-- x = e, by e's reading -/
theorem ds_asgQ {T : TE} {wr : α → W (Fl R S B)} (p : PS X st (tAsg T (gName i))) (h : DQ X G ρ T w enc) (hr : ∀ y, DS X G (ρ.set i (.fr (enc y))) rest eR eS eB (wr y)) : DS X G ρ (st :: rest) eR eS eB (bnd w wr) :=
  ⟨mono_bnd h.mono fun y => (hr y).mono, fun σ F H Dn st q => PSs_.b (pss_cons p pss_b) (h.run σ F H _ st (h.mono _ _ (fun y q v F' H' st' l r =>
    (hr y).run _ F' H' Dn (st'.setF r) ((hr y).mono _ _ (fun o => Post.mono l.f) q)) q))⟩
theorem ds_asgL {T : TE} {wr : α → W (Fl R S B)} (p : PS X st (tAsg T (gName i))) (h : LQ X G ρ T w enc) (hr : ∀ y, DS X G (ρ.set i (.ow (enc y))) rest eR eS eB (wr y)) : DS X G ρ (st :: rest) eR eS eB (bnd w wr) :=
  ⟨mono_bnd h.mono fun y => (hr y).mono, fun σ F H Dn st q => PSs_.b (pss_cons p pss_b) (h.run σ F H _ st (h.mono _ _ (fun y q a F' H' st' l n nf o => by
    obtain ⟨h0, hb, _⟩ := st.hn n
    refine (hr y).run _ F' H' Dn (st'.setO o nf h0 hb fun j d e z => ?_) ((hr y).mono _ _ (fun o => Post.mono l.f) q)
    obtain ⟨x, h1, b, h2, ow, _⟩ := st.sl j _ e
    rw [h1, h2] at z
    cases z
    obtain ⟨u', hu'⟩ := ow.some
    rw [n] at hu'
    cases hu') q))⟩
theorem ps_as {pos' : Pos} (g : Gd X k) (hs : Sc X N sc) (hN : N[i]? = some x) (hl : Loc sc x) (hf : X.fn x = true ∨ sc.names.lookup x = some .local) (hsw : swapsWith e (some (.Name x pos')) pos.line X.env = pure false := by rfl) : PS X (.Assign [.Name x pos'] e pos) (tAsg (bE X e) (gName i)) :=
  ps_set g.nd (by rw [hs.N]; exact hN) (by rw [hs.s]; exact hl) pe_b hsw (loc_fn hs hf)
theorem ds_drop {wr : W (Fl R S B)} (p : ∀ T : TE, PE X e T → PS X st (tDrop T)) (h : DE X G ρ e w enc) (hr : DS X G ρ rest eR eS eB wr) : DS X G ρ (st :: rest) eR eS eB (bnd w fun _ => wr) :=
  ⟨mono_bnd h.mono fun y => hr.mono, fun σ F H Dn st q => PSs_.b (pss_cons (p _ pe_b) pss_b) (h.run σ F H _ st (h.mono _ _ (fun y q v F' H' st' l r =>
    hr.run _ F' H' Dn st' (hr.mono _ _ (fun o => Post.mono l.f) q)) q))⟩
/-- x op= e -/
theorem ds_aug {op : Operator} {r : R2} {pos' : Pos} {f : α → β → W γ} {wb : W β} {eb : β → D} {ec : γ → D} {y : α} {wr : γ → W (Fl R S B)} (g : Gd X k) (hs : Sc X N sc) (hN : N[i]? = some x) (hl : Loc sc x) (hf : X.fn x = true ∨ sc.names.lookup x = some .local) (hρ : ρ[i]? = some (.fr (enc y))) (ho : OpR X (inplaceOp op) r)
    (hb : DB X G ρ e wb eb) (mf : ∀ x, Mono (f y x)) (snd : ∀ F H v u z Q, Sub F H → RepB X.K G F H v (enc y) → RepB X.K G F H u (eb z) → f y z (fun z => ∀ v', Rep X.K F v' (ec z) → Q v' H) → r v u H Q)
    (hr : ∀ y, DS X G (ρ.set i (.fr (ec y))) rest eR eS eB (wr y)) : DS X G ρ (.AugAssign (.Name x pos') op e pos :: rest) eR eS eB (bnd wb fun z => bnd (f y z) wr) :=
  ⟨mono_bnd hb.mono fun z => mono_bnd (mf z) fun y => (hr y).mono, fun σ F H Dn st q => PSs_.b (pss_cons (ps_aug (ti := r) g.nd (by rw [hs.N]; exact hN) (by rw [hs.s]; exact hl) pe_b (fun pins s σ H x y v u Q I rx ry h => ho pins s σ H x y v u Q I rx ry h) (loc_fn hs hf)) pss_b) (by
    obtain ⟨_, h1, v, rfl, rv⟩ := st.sl i _ hρ
    exact ⟨v, h1, hb.run σ F H _ st (hb.mono _ _ (fun z q u F' H' st' l ru => snd F' H' v u z _ st'.sub (.inl (rv.mono l.f)) ru (mf z _ _ (fun z q v' r' =>
      (hr z).run _ F' H' Dn (st'.setF r') ((hr z).mono _ _ (fun o => Post.mono l.f) q)) q)) q)⟩)⟩
theorem ds_augI {pos' : Pos} {y : Int} {wb : W Int} {wr : Int → W (Fl R S B)} (g : Gd X k) (hs : Sc X N sc) (hN : N[i]? = some x) (hl : Loc sc x) (hf : X.fn x = true ∨ sc.names.lookup x = some .local) (hρ : ρ[i]? = some (.fr (.int y)))
    (hb : DB X G ρ e wb D.int) (hr : ∀ y, DS X G (ρ.set i (.fr (.int y))) rest eR eS eB (wr y)) : DS X G ρ (.AugAssign (.Name x pos') .Add e pos :: rest) eR eS eB (bnd wb fun z => bnd (ret (y + z)) wr) :=
  ds_aug (f := fun x y => ret (x + y)) (ec := D.int) (enc := D.int) g hs hN hl hf hρ iop_add hb (fun _ => mono_ret _) (fun F H v u z Q s rv ru q => by
    obtain rfl := rv.int
    obtain rfl := ru.int
    exact ⟨_, _, rfl, rfl, q _ (.int _)⟩) hr
theorem ds_augS {pos' : Pos} {y : Int} {wb : W Int} {wr : Int → W (Fl R S B)} (g : Gd X k) (hs : Sc X N sc) (hN : N[i]? = some x) (hl : Loc sc x) (hf : X.fn x = true ∨ sc.names.lookup x = some .local) (hρ : ρ[i]? = some (.fr (.int y)))
    (hb : DB X G ρ e wb D.int) (hr : ∀ y, DS X G (ρ.set i (.fr (.int y))) rest eR eS eB (wr y)) : DS X G ρ (.AugAssign (.Name x pos') .Sub e pos :: rest) eR eS eB (bnd wb fun z => bnd (ret (y - z)) wr) :=
  ds_aug (f := fun x y => ret (x - y)) (ec := D.int) (enc := D.int) g hs hN hl hf hρ iop_sub hb (fun _ => mono_ret _) (fun F H v u z Q s rv ru q => by
    obtain rfl := rv.int
    obtain rfl := ru.int
    exact ⟨_, _, rfl, rfl, q _ (.int _)⟩) hr

/-! ### if -/
def thn' {R S S1 B : Type} (wr : S1 → W (Fl R S B)) : Fl R S1 B → W (Fl R S B)
  | .nx s => wr s
  | .rt r => ret (.rt r)
  | .bk b => ret (.bk b)
  | .ct b => ret (.ct b)
theorem mono_thn {wr : S1 → W (Fl R S B)} (h : ∀ s, Mono (wr s)) : ∀ o, Mono (thn' wr o)
  | .nx s => h s
  | .rt _ => mono_ret _
  | .bk _ => mono_ret _
  | .ct _ => mono_ret _
/-- what stands behind a statement that ends in some way -/
theorem post_thn {e1 : S1 → List Sl} {wr : S1 → W (Fl R S B)} (hr : ∀ s, DS X G (e1 s) rest eR eS eB (wr s)) {F F' : Hp} {Dn : Ends} (e : Sub F F') : ∀ o : Fl R S1 B, thn' wr o (Post X G eR eS eB F Dn) → Post X G eR e1 eB F' { Dn with nx := bSs X rest Dn } o
  | .nx s, q => fun σ' F2 H2 st2 e2 => (hr s).run σ' F2 H2 Dn st2 ((hr s).mono _ _ (fun o => Post.mono (e.trans e2)) q)
  | .rt _, q => fun v F2 H2 st s r => q v F2 H2 st (e.trans s) r
  | .bk _, q => fun σ' F2 H2 st s => q σ' F2 H2 st (e.trans s)
  | .ct _, q => fun σ' F2 H2 st s => q σ' F2 H2 st (e.trans s)
theorem ds_if {e1 : S1 → List Sl} {wc : W Bool} {A C : List Stmt} {wa wb : W (Fl R S1 B)} {wr : S1 → W (Fl R S B)} (hc : DT X G ρ c wc) (ha : DS X G ρ A eR e1 eB wa) (hb : DS X G ρ C eR e1 eB wb) (hr : ∀ s, DS X G (e1 s) rest eR eS eB (wr s)) :
    DS X G ρ (.If c A C pos :: rest) eR eS eB (bnd wc fun x => bnd (if x then wa else wb) (thn' wr)) :=
  ⟨mono_bnd hc.mono fun x => mono_bnd (mono_ite ha.mono hb.mono) (mono_thn fun s => (hr s).mono), fun σ F H Dn st q => PSs_.b (pss_cons (ps_if pt_b pss_b pss_b) pss_b) (hc.run σ F H _ st (hc.mono _ _ (fun x q F' H' st' l => by
    cases x with
    | true => exact ha.run σ F' H' _ st' (ha.mono _ _ (fun o q => post_thn hr l.f o q) q)
    | false => exact hb.run σ F' H' _ st' (hb.mono _ _ (fun o q => post_thn hr l.f o q) q)) q))⟩
/-- the first way leaves -/
def lv {R S B : Type} : Fl R Empty B → W (Fl R S B) := thn' fun s => nomatch s
theorem ds_ifx {wc : W Bool} {A : List Stmt} {wa : W (Fl R Empty B)} {wr : W (Fl R S B)} (hc : DT X G ρ c wc) (ha : DS X G ρ A eR (fun s : Empty => nomatch s) eB wa) (hr : DS X G ρ rest eR eS eB wr) :
    DS X G ρ (.If c A [] pos :: rest) eR eS eB (bnd wc fun x => if x then bnd wa lv else wr) :=
  ⟨mono_bnd hc.mono fun x => mono_ite (mono_bnd ha.mono (mono_thn fun s => nomatch s)) hr.mono, fun σ F H Dn st q => PSs_.b (pss_cons (ps_if pt_b pss_b pss_b) pss_b) (hc.run σ F H _ st (hc.mono _ _ (fun x q F' H' st' l => by
    cases x with
    | true => exact ha.run σ F' H' _ st' (ha.mono _ _ (fun o q => post_thn (wr := fun s : Empty => nomatch s) (fun s => nomatch s) l.f o q) q)
    | false => exact PSs_.b pss_nil (hr.run σ F' H' Dn st' (hr.mono _ _ (fun o => Post.mono l.f) q))) q))⟩
/-- both ways leave -/
theorem ds_ifxx {wc : W Bool} {A C : List Stmt} {wa wb : W (Fl R Empty B)} (hc : DT X G ρ c wc) (ha : DS X G ρ A eR (fun s : Empty => nomatch s) eB wa) (hb : DS X G ρ C eR (fun s : Empty => nomatch s) eB wb) :
    DS X G ρ (.If c A C pos :: rest) eR eS eB (bnd wc fun x => bnd (if x then wa else wb) lv) :=
  ⟨mono_bnd hc.mono fun x => mono_bnd (mono_ite ha.mono hb.mono) (mono_thn fun s => nomatch s), fun σ F H Dn st q => PSs_.b (pss_cons (ps_if pt_b pss_b pss_b) pss_b) (hc.run σ F H _ st (hc.mono _ _ (fun x q F' H' st' l => by
    cases x with
    | true => exact ha.run σ F' H' _ st' (ha.mono _ _ (fun o q => post_thn (wr := fun s : Empty => nomatch s) (fun s => nomatch s) l.f o q) q)
    | false => exact hb.run σ F' H' _ st' (hb.mono _ _ (fun o q => post_thn (wr := fun s : Empty => nomatch s) (fun s => nomatch s) l.f o q) q)) q))⟩

/-! ### while -/
def whN {R S : Type} (wc : S → W Bool) (wb : S → W (Fl R S S)) : Nat → S → W (Fl R S Empty)
  | 0, _ => nvr
  | n + 1, s => bnd (wc s) fun x => if x then bnd (wb s) fun
    | .nx s' => whN wc wb n s'
    | .ct s' => whN wc wb n s'
    | .bk s' => ret (.nx s')
    | .rt r => ret (.rt r) else ret (.nx s)
def wh {R S : Type} (wc : S → W Bool) (wb : S → W (Fl R S S)) (s : S) : W (Fl R S Empty) := fun Φ => ∃ n, whN wc wb n s Φ
/-- out of a loop -/
def thnL {R S S1 B : Type} (wr : S1 → W (Fl R S B)) : Fl R S1 Empty → W (Fl R S B)
  | .nx s => wr s
  | .rt r => ret (.rt r)
theorem mono_thnL {wr : S1 → W (Fl R S B)} (h : ∀ s, Mono (wr s)) : ∀ o, Mono (thnL wr o)
  | .nx s => h s
  | .rt _ => mono_ret _
theorem mono_whN {wc : S → W Bool} {wb : S → W (Fl R S S)} (hc : ∀ s, Mono (wc s)) (hb : ∀ s, Mono (wb s)) : ∀ n s, Mono (whN wc wb n s)
  | 0, _ => fun _ _ _ q => q
  | n + 1, s => mono_bnd (hc s) fun x => mono_ite (mono_bnd (hb s) fun o => by
    cases o with
    | nx s' => exact mono_whN hc hb n s'
    | ct s' => exact mono_whN hc hb n s'
    | bk s' => exact mono_ret _
    | rt r => exact mono_ret _) (mono_ret _)
theorem mono_wh {wc : S → W Bool} {wb : S → W (Fl R S S)} (hc : ∀ s, Mono (wc s)) (hb : ∀ s, Mono (wb s)) (s : S) : Mono (wh wc wb s) := fun P Q i ⟨n, q⟩ => ⟨n, mono_whN hc hb n s P Q i q⟩
theorem ds_while {e1 : S1 → List Sl} {wc : S1 → W Bool} {A : List Stmt} {wb : S1 → W (Fl R S1 S1)} {wr : S1 → W (Fl R S B)} {s0 : S1} (g : Gd X k) (h0 : Wk ρ (e1 s0)) (hc : ∀ s, DT X G (e1 s) c (wc s)) (hb : ∀ s, DS X G (e1 s) A eR e1 e1 (wb s)) (hr : ∀ s, DS X G (e1 s) rest eR eS eB (wr s)) :
    DS X G ρ (.While c A [] pos :: rest) eR eS eB (bnd (wh wc wb s0) (thnL wr)) :=
  ⟨mono_bnd (mono_wh (fun s => (hc s).mono) (fun s => (hb s).mono) s0) (mono_thnL fun s => (hr s).mono), fun σ F H Dn st q => PSs_.b (pss_cons (ps_while g.own pt_b pss_b) pss_b) (by
    obtain ⟨F0, e0, st0⟩ := st.wk h0
    obtain ⟨n0, q⟩ := q
    refine ⟨fun m σ1 H1 => ∃ s F1, Sub F F1 ∧ Sta X.K G (e1 s) σ1 F1 H1 ∧ whN wc wb m s (fun o => thnL wr o (Post X G eR eS eB F Dn)), ⟨n0, s0, F0, e0, st0, q⟩, ?_⟩
    rintro m σ1 H1 ⟨s, F1, f1, st1, q1⟩
    cases m with
    | zero => exact q1.elim
    | succ m =>
      refine (hc s).run σ1 F1 H1 _ st1 ((hc s).mono _ _ (fun x q F2 H2 st2 l2 => ?_) q1)
      cases x with
      | false =>
        exact (hr s).run σ1 F2 H2 Dn st2 ((hr s).mono _ _ (fun o => Post.mono (f1.trans l2.f)) q)
      | true =>
        refine ⟨fun σ' H' => ∃ s F1, Sub F F1 ∧ Sta X.K G (e1 s) σ' F1 H' ∧ whN wc wb m s (fun o => thnL wr o (Post X G eR eS eB F Dn)), fun σ' H' z => ⟨m, Nat.lt_succ_self m, z⟩, ?_⟩
        refine (hb s).run σ1 F2 H2 _ st2 ((hb s).mono _ _ (fun o q => ?_) q)
        have f2 := f1.trans l2.f
        cases o with
        | nx s' => exact fun σ' F' H' st' e' => ⟨s', F', f2.trans e', st', q⟩
        | ct s' => exact fun σ' F' H' st' e' => ⟨s', F', f2.trans e', st', q⟩
        | bk s' => exact fun σ' F' H' st' e' => (hr s').run σ' F' H' Dn st' ((hr s').mono _ _ (fun o => Post.mono (f2.trans e')) q)
        | rt r => exact fun v F' H' fn e' rp => q v F' H' fn (f2.trans e') rp)⟩
end
end Dt
/-! Dt4: targets, walks, for, comprehensions. -/
namespace Dt
open PySem PySem.Spec PyProof.Rows L2

/-! ### targets -/
theorem wipe_none_self : ∀ {vs : List Nat} {σ : L2.St} {v : Nat}, v ∈ vs → v < σ.length → (wipe σ vs)[v]? = some none
  | [], _, _, h, _ => by simp at h
  | u :: vs, σ, v, h, hl => by
    unfold wipe
    by_cases e : u = v
    · subst e
      rw [List.getElem?_set_self (by rw [wipe_length]; exact hl)]
    · rw [List.getElem?_set_ne e]
      exact wipe_none_self ((List.mem_cons.mp h).resolve_left fun z => e z.symm) hl
theorem wipe_out' {σ : L2.St} {i : Nat} : ∀ {vs : List Nat}, i ∉ vs → (wipe σ vs)[i]? = σ[i]?
  | [], _ => rfl
  | v :: vs, h => by
    unfold wipe
    rw [List.getElem?_set_ne (fun e => h (by rw [e]; exact List.mem_cons_self))]
    exact wipe_out' fun z => h (List.mem_cons_of_mem _ z)
theorem wipe_set {σ : L2.St} {i : Nat} {x : Option V} {vs : List Nat} (h : i ∈ vs) : wipe (σ.set i x) vs = wipe σ vs := by
  refine List.ext_getElem? fun j => ?_
  by_cases hj : j ∈ vs
  · by_cases hl : j < σ.length
    · rw [wipe_none_self hj (by simpa using hl), wipe_none_self hj hl]
    · rw [List.getElem?_eq_none (by rw [wipe_length]; simpa using hl), List.getElem?_eq_none (by rw [wipe_length]; simpa using hl)]
  · rw [wipe_out' hj, wipe_out' hj, List.getElem?_set_ne (fun e => hj (by rw [← e]; exact h))]
/-- a target that takes d: the slots behind, the places it writes -/
structure TGt (X : Cx) (G : Gh) (tg : Expr) (d : D) (u : List Sl → List Sl) (is : List Nat) : Prop where
  run : ∀ ρ σ F H v (Q : L2.St → Hp → Prop), Sta X.K G ρ σ F H → Rep X.K F v d → (∀ σ', Sta X.K G (u ρ) σ' F H → (∀ vs : List Nat, (∀ i ∈ is, i ∈ vs) → wipe σ' vs = wipe σ vs) → Q σ' H) → bG X tg v σ H Q
structure TGs' (X : Cx) (G : Gh) (ts : List Expr) (ds : List D) (u : List Sl → List Sl) (is : List Nat) : Prop where
  run : ∃ t, PGs X ts t ∧ ∀ ρ σ F H vs (Q : L2.St → Hp → Prop), Sta X.K G ρ σ F H → Reps X.K F vs ds → (∀ σ', Sta X.K G (u ρ) σ' F H → (∀ ws : List Nat, (∀ i ∈ is, i ∈ ws) → wipe σ' ws = wipe σ ws) → Q σ' H) → t vs σ H Q
section
variable {X : Cx} {G : Gh} {ρ : List Sl} {N : List Str} {sc : Scope} {i k : Nat} {x : Str} {d : D} {ds : List D} {u u2 : List Sl → List Sl} {is is2 : List Nat} {tg : Expr} {ts : List Expr} {pos : Pos}
theorem tg_name (g : Gd X k) (hs : Sc X N sc) (hN : N[i]? = some x) (hl : Loc sc x) (hf : X.fn x = true ∨ sc.names.lookup x = some .local) : TGt X G (.Name x pos) d (fun ρ => ρ.set i (.fr d)) [i] :=
  ⟨fun ρ σ F H v Q st r q => PG_.b (pg_name g.nd (by rw [hs.N]; exact hN) (by rw [hs.s]; exact hl) (loc_fn hs hf)) (q _ (st.setF r) fun vs h => wipe_set (h i (by simp)))⟩
theorem tgs_nil : TGs' X G [] [] id [] := ⟨gNil, pgs_nil, fun ρ σ F H vs Q st r q => by
  cases r
  exact ⟨rfl, q σ st fun _ _ => rfl⟩⟩
theorem tgs_cons (h : TGt X G tg d u is) (hr : TGs' X G ts ds u2 is2) (hs : (assignEach (tg :: ts) X.env).map (·.2) = assign tg X.env :: (assignEach ts X.env).map (·.2) := by rfl) : TGs' X G (tg :: ts) (d :: ds) (fun ρ => u2 (u ρ)) (is ++ is2) := by
  obtain ⟨t, ht, h2⟩ := hr.run
  refine ⟨gCons (bG X tg) t, pgs_cons pg_b ht hs, fun ρ σ F H vs Q st r q => ?_⟩
  cases r with
  | cons r rs =>
    exact ⟨_, _, rfl, h.run ρ σ F H _ _ st r fun σ1 st1 w1 => h2 _ σ1 F H _ _ st1 rs fun σ2 st2 w2 => q σ2 st2 fun ws hw =>
      (w2 ws fun i hi => hw i (List.mem_append_right _ hi)).trans (w1 ws fun i hi => hw i (List.mem_append_left _ hi))⟩
theorem tg_tup {kk : Nat} {n : Nat} (g : Gd X k) (h : TGs' X G ts ds u is) (hn : (assignEach ts X.env).length = n := by rfl) (hl : ds.length = n := by rfl) (hst : (assignEach ts X.env).findIdx? (·.1) = none := by rfl) : TGt X G (.Tuple ts kk pos) (.tup ds) u is := by
  obtain ⟨t, ht, h2⟩ := h.run
  exact ⟨fun ρ σ F H v Q st r q => PG_.b (pg_tup g.calm ht hn hst) (by
    cases r with
    | tup hq rs hz => exact ⟨_, _, rfl, SqT.of (st.sub _ _ hq), by rw [rs.len]; exact hl, h2 ρ σ F H _ Q st rs q⟩)⟩
end

/-! ### walks -/
def bI (X : Cx) (tg iter : Expr) : TI := fun σ H R => ∀ pins s, Inv X pins σ H s → wpAny (model X.prog X.w) X.A (eval iter X.env) (fun v s1 => wpAny (model X.prog X.w) X.A (pyIter v) (PIE X pins σ tg R) X.xe s1) X.xe s
theorem pi_b {X : Cx} {tg iter : Expr} : PI X tg iter (bI X tg iter) := ⟨fun pins s _ _ _ I h => h pins s I⟩
theorem PI_.b {X : Cx} {tg iter : Expr} {wi : TI} {σ : L2.St} {H : Hp} {R : It → Hp → Prop} (p : PI X tg iter wi) (h : wi σ H R) : bI X tg iter σ H R := fun pins s I => p.run pins s σ H R I h
/-- J gives xs, while C holds of the frozen part and the heap -/
structure ItOk {α : Type} (K : PySem.W.Frag) (C : Hp → Hp → Prop) (J : It) (xs : List α) (enc : α → D) : Prop where
  hz : xs.length ≤ sizeLine
  ex : ∃ Gd Y, Walk J xs.length Gd Y ∧ (∀ F H, C F H → Sub F H → Gd H) ∧
    ∀ i F H v H3 x, C F H → Sub F H → Y i H v H3 → xs[i]? = some x → ∃ F3, Rep K F3 v (enc x) ∧ ((F3 = F ∧ H3 = H) ∨ ∃ p o, H p = none ∧ F3 = upd F p o ∧ H3 = upd H p o)
theorem ItOk.imp {α : Type} {K : PySem.W.Frag} {C C' : Hp → Hp → Prop} {J : It} {xs : List α} {enc : α → D} (h : ItOk K C J xs enc) (i : ∀ F H, C' F H → Sub F H → C F H) : ItOk K C' J xs enc := by
  obtain ⟨Gd, Y, w, h1, h2⟩ := h.ex
  exact ⟨h.hz, Gd, Y, w, fun F H c s => h1 F H (i F H c s) s, fun j F H v H3 x c s => h2 j F H v H3 x (i F H c s) s⟩
/-- the frozen things of F stand -/
def CF (F : Hp) : Hp → Hp → Prop := fun F2 _ => Sub F F2
/-- all of H stands, but for the box -/
def CL (G : Gh) (F H : Hp) : Hp → Hp → Prop := fun F2 H2 => Le G F H F2 H2
structure DI {α : Type} (X : Cx) (G : Gh) (ρ : List Sl) (tg iter : Expr) (w : W (List α)) (enc : α → D) : Prop where
  mono : Mono w
  run : ∀ σ F H R, Sta X.K G ρ σ F H → w (fun xs => ∀ J F' H', Sta X.K G ρ σ F' H' → Le G F H F' H' → ItOk X.K (CF F') J xs enc → R J H') → bI X tg iter σ H R
structure DJ {α : Type} (X : Cx) (G : Gh) (ρ : List Sl) (tg iter : Expr) (w : W (List α)) (enc : α → D) : Prop where
  mono : Mono w
  run : ∀ σ F H R, Sta X.K G ρ σ F H → w (fun xs => ∀ J F' H', Sta X.K G ρ σ F' H' → Le G F H F' H' → ItOk X.K (CL G F' H') J xs enc → R J H') → bI X tg iter σ H R
section
variable {X : Cx} {G : Gh} {ρ : List Sl} {α β γ : Type} {tg iter e a b c : Expr} {w : W (List α)} {enc : α → D} {k : Nat}
theorem DI.dj (h : DI X G ρ tg iter w enc) : DJ X G ρ tg iter w enc := ⟨h.mono, fun σ F H R st q => h.run σ F H R st (h.mono _ _ (fun xs q J F' H' st' l i => q J F' H' st' l (i.imp fun F2 H2 c _ => c.f)) q)⟩
theorem reps_item {K : PySem.W.Frag} {F F2 : Hp} {vs : List V} {xs : List α} {i : Nat} {v : V} {x : α} (rs : Reps K F vs (xs.map enc)) (s : Sub F F2) (hv : vs[i]? = some v) (hx : xs[i]? = some x) : Rep K F2 v (enc x) := by
  obtain ⟨v', h1, h2⟩ := rs.get (i := i) (d := enc x) (by rw [List.getElem?_map, hx]; rfl)
  rw [hv] at h1
  cases h1
  exact h2.mono s
theorem itok_list {K : PySem.W.Frag} {C : Hp → Hp → Prop} {F : Hp} {a : Addr} {vs : List V} {xs : List α} (rs : Reps K F vs (xs.map enc)) (hz : xs.length ≤ sizeLine) (hC : ∀ F2 H2, C F2 H2 → Sub F2 H2 → Sub F F2 ∧ SqL K H2 a vs) : ItOk K C (Itl K a) xs enc := by
  have hl : vs.length = xs.length := by rw [rs.len, List.length_map]
  refine ⟨hz, _, _, hl ▸ walk_list (K := K) (a := a) (xs := vs), fun F2 H2 c s => (hC F2 H2 c s).2, fun i F2 H2 v H3 x c s y hx => ⟨F2, reps_item rs (hC F2 H2 c s).1 y.2 hx, .inl ⟨rfl, y.1⟩⟩⟩
theorem itok_tup {K : PySem.W.Frag} {C : Hp → Hp → Prop} {F : Hp} {a : Addr} {vs : List V} {xs : List α} (rs : Reps K F vs (xs.map enc)) (hz : xs.length ≤ sizeLine) (hC : ∀ F2 H2, C F2 H2 → Sub F2 H2 → Sub F F2 ∧ SqT K H2 a vs) : ItOk K C (Itt K a) xs enc := by
  have hl : vs.length = xs.length := by rw [rs.len, List.length_map]
  refine ⟨hz, _, _, hl ▸ walk_tup (K := K) (a := a) (xs := vs), fun F2 H2 c s => (hC F2 H2 c s).2, fun i F2 H2 v H3 x c s y hx => ⟨F2, reps_item rs (hC F2 H2 c s).1 y.2 hx, .inl ⟨rfl, y.1⟩⟩⟩
theorem di_list (h : DE X G ρ iter w (eL enc)) : DI X G ρ tg iter w enc :=
  ⟨h.mono, fun σ F H R st q => PI_.b (pi_list pe_b) (h.run σ F H _ st (h.mono _ _ (fun xs q v F' H' st' l r => by
    unfold eL at r
    cases r with
    | lst hq rs hz => exact ⟨_, rfl, ⟨_, SqL.of (st'.sub _ _ hq)⟩, q _ F' H' st' l (itok_list rs (by simpa using hz) fun F2 H2 c s => ⟨c, SqL.of (s _ _ (c _ _ hq))⟩)⟩) q))⟩
theorem dj_list (h : DB X G ρ iter w (eL enc)) : DJ X G ρ tg iter w enc :=
  ⟨h.mono, fun σ F H R st q => PI_.b (pi_list pe_b) (h.run σ F H _ st (h.mono _ _ (fun xs q v F' H' st' l r => by
    have r' := r
    rcases r with r | ⟨a, rfl, ⟨vs, ha, rs, hz⟩, hb⟩
    · unfold eL at r
      cases r with
      | lst hq rs hz => exact ⟨_, rfl, ⟨_, SqL.of (st'.sub _ _ hq)⟩, q _ F' H' st' l (itok_list rs (by simpa using hz) fun F2 H2 c s => ⟨c.f, SqL.of (s _ _ (c.f _ _ hq))⟩)⟩
    · exact ⟨a, rfl, ⟨vs, SqL.of ha⟩, q _ F' H' st' l (itok_list rs (by simpa using hz) fun F2 H2 c s => ⟨c.f, SqL.of (c.h _ _ ha hb)⟩)⟩) q))⟩
theorem di_tup (h : DE X G ρ iter w (eT enc)) : DI X G ρ tg iter w enc :=
  ⟨h.mono, fun σ F H R st q => PI_.b (pi_tup pe_b) (h.run σ F H _ st (h.mono _ _ (fun xs q v F' H' st' l r => by
    unfold eT at r
    cases r with
    | tup hq rs hz => exact ⟨_, rfl, ⟨_, SqT.of (st'.sub _ _ hq)⟩, q _ F' H' st' l (itok_tup rs (by simpa using hz) fun F2 H2 c s => ⟨c, SqT.of (s _ _ (c _ _ hq))⟩)⟩) q))⟩
/-- lo, lo + 1, .. below hi -/
def rng (lo hi : Int) : List Int := (List.range (hi - lo).toNat).map fun i : Nat => lo + i
theorem rng_get {lo hi : Int} {i : Nat} {x : Int} (h : (rng lo hi)[i]? = some x) : x = lo + i := by
  unfold rng at h
  rw [List.getElem?_map] at h
  cases q : (List.range (hi - lo).toNat)[i]? with
  | none => rw [q] at h; cases h
  | some j =>
    rw [q] at h
    have : j = i := by
      rw [List.getElem?_eq_some_iff] at q
      obtain ⟨_, q⟩ := q
      simp at q
      exact q.symm
    subst this
    cases h
    rfl
theorem rng_len (lo hi : Int) : (rng lo hi).length = (hi - lo).toNat := by simp [rng]
theorem itok_rng {K : PySem.W.Frag} {C : Hp → Hp → Prop} {lo hi : Int} {n : Nat} (hn : n = (hi - lo).toNat) (hz : n ≤ sizeLine) : ItOk K C (Itr lo n) (rng lo hi) D.int := by
  have hl : (rng lo hi).length = n := by rw [rng_len, hn]
  subst hl
  refine ⟨hz, _, _, walk_range (lo := lo) (n := (rng lo hi).length), fun _ _ _ _ => trivial, fun i F2 H2 v H3 x c s y hx => ⟨F2, ?_, .inl ⟨rfl, y.1⟩⟩⟩
  rw [y.2, rng_get hx]
  exact .int _
def wRng (lo hi : Int) : W (List Int) := grd (-(2 ^ 62) ≤ lo ∧ hi - lo ≤ 16777216 ∧ hi < 2 ^ 62 ∧ lo < 2 ^ 62 ∧ -(2 ^ 62) ≤ hi) (ret (rng lo hi))
theorem di_rng1 {wa : W Int} {p pos : Pos} (hg : Gl X "range") (hm : X.mg "range" = none) (ha : DB X G ρ a wa D.int) (hs : starEach [a] X.env = [(false, eval a X.env)] := by rfl) : DI X G ρ tg (.Call (.Name "range" p) [a] [] pos) (bnd wa fun x => wRng 0 x) D.int :=
  ⟨mono_bnd ha.mono fun _ => mono_grd (mono_ret _), fun σ F H R st q => PI_.b (pi_range1 hg hm (pa_cons pe_b pa_nil hs) hs) (ha.run σ F H _ st (ha.mono _ _ (fun x q v F' H' st' l r => by
    obtain rfl := r.int
    obtain ⟨⟨h1, h2, h3, h4, h5⟩, q⟩ := q
    exact ⟨x, rfl, h5, h3, q _ F' H' st' l (itok_rng (by rw [Int.sub_zero]) (by show x.toNat ≤ 2 ^ 24; omega))⟩) q))⟩
theorem di_rng2 {wa wb : W Int} {p pos : Pos} (hg : Gl X "range") (hm : X.mg "range" = none) (ha : DB X G ρ a wa D.int) (hb : DB X G ρ b wb D.int) (hs : starEach [a, b] X.env = [(false, eval a X.env), (false, eval b X.env)] := by rfl) (hs2 : starEach [b] X.env = [(false, eval b X.env)] := by rfl) :
    DI X G ρ tg (.Call (.Name "range" p) [a, b] [] pos) (bnd wa fun x => bnd wb fun y => wRng x y) D.int :=
  ⟨mono_bnd ha.mono fun _ => mono_bnd hb.mono fun _ => mono_grd (mono_ret _), fun σ F H R st q => PI_.b (pi_range2 hg hm (pa_cons pe_b (pa_cons pe_b pa_nil hs2) (hs.trans (by rw [hs2]))) hs hs2) (run2 ha hb st (ha.mono _ _ (fun x => hb.mono _ _ fun y q v u F' H' st' l r ru => by
    obtain rfl := r.int
    obtain rfl := ru.int
    obtain ⟨⟨h1, h2, h3, h4, h5⟩, q⟩ := q
    exact ⟨x, y, rfl, ⟨h1, h4, h5, h3⟩, q _ F' H' st' l (itok_rng rfl (by show (y - x).toNat ≤ 2 ^ 24; omega))⟩) q))⟩
/-- a text, sign by sign -/
def signs (s : Str) : List Str := s.cps.toList.map fun c => ⟨#[c]⟩
theorem di_str {wa : W Str} (ha : DB X G ρ iter wa D.str) : DI X G ρ tg iter (bnd wa fun s => ret (signs s)) D.str :=
  ⟨mono_bnd ha.mono fun _ => mono_ret _, fun σ F H R st q => PI_.b (pi_str pe_b) (ha.run σ F H _ st (ha.mono _ _ (fun s q v F' H' st' l r => by
    obtain ⟨rfl, hz⟩ := r.str
    refine ⟨s, rfl, q _ F' H' st' l ?_⟩
    have hl : (signs s).length = s.cps.size := by simp [signs]
    refine ⟨by rw [hl]; exact hz, _, _, hl.symm ▸ walk_str (z := s), fun _ _ _ _ => trivial, fun i F2 H2 v H3 x c sb y hx => ⟨F2, ?_, .inl ⟨rfl, y.1⟩⟩⟩
    obtain ⟨_, cc, hc, rfl⟩ := y
    have e : x = ⟨#[cc]⟩ := by
      unfold signs at hx
      rw [List.getElem?_map, Array.getElem?_toList, hc] at hx
      exact (Option.some.inj hx).symm
    subst e
    exact .str _ (by show 1 ≤ 2 ^ 24; decide)) q))⟩
/-- enumerate(xs) -/
def enumI (xs : List α) : List (Int × α) := xs.zipIdx.map fun p => ((p.2 : Int), p.1)
theorem enumI_get {xs : List α} {i : Nat} {z : Int × α} (h : (enumI xs)[i]? = some z) : ∃ x, xs[i]? = some x ∧ z = ((i : Int), x) := by
  unfold enumI at h
  rw [List.getElem?_map, List.getElem?_zipIdx] at h
  cases q : xs[i]? with
  | none => rw [q] at h; cases h
  | some x =>
    rw [q] at h
    refine ⟨x, rfl, ?_⟩
    simp at h
    exact h.symm
theorem enumI_len (xs : List α) : (enumI xs).length = xs.length := by simp [enumI]
theorem itok_enum {K : PySem.W.Frag} {C : Hp → Hp → Prop} {F : Hp} {a : Addr} {vs : List V} {xs : List α} (rs : Reps K F vs (xs.map enc)) (hz : xs.length ≤ sizeLine) (hC : ∀ F2 H2, C F2 H2 → Sub F2 H2 → Sub F F2 ∧ SqL K H2 a vs) : ItOk K C (Ite K a) (enumI xs) (e2 D.int enc) := by
  have hl : vs.length = (enumI xs).length := by rw [rs.len, List.length_map, enumI_len]
  refine ⟨by rw [enumI_len]; exact hz, _, _, hl ▸ walk_enum (K := K) (a := a) (xs := vs), fun F2 H2 c s => (hC F2 H2 c s).2, fun i F2 H2 v H3 z c s y hx => ?_⟩
  obtain ⟨T, x, y', rfl, hT, rfl, h4, h5⟩ := y
  obtain ⟨x0, hx0, rfl⟩ := enumI_get hx
  cases h4
  refine ⟨upd F2 T (.tup [.int (i : Nat), y']), ?_, .inr ⟨T, _, hT, rfl, rfl⟩⟩
  have hF : F2 T = none := by
    cases q : F2 T with
    | none => rfl
    | some o => rw [s T o q] at hT; cases hT
  exact .tup upd_same (.cons (.int _) (.cons ((reps_item rs (hC F2 H2 c s).1 h5 hx0).mono (sub_upd hF)) .nil)) (by show 2 ≤ 2 ^ 24; decide)
theorem di_enum {p pos tpos : Pos} {ts : List Expr} {kk} (hg : Gl X "enumerate") (hm : X.mg "enumerate" = none) (h : DE X G ρ a w (eL enc)) (hs : starEach [a] X.env = [(false, eval a X.env)] := by rfl) : DI X G ρ (.Tuple ts kk tpos) (.Call (.Name "enumerate" p) [a] [] pos) (bnd w fun xs => ret (enumI xs)) (e2 D.int enc) :=
  ⟨mono_bnd h.mono fun _ => mono_ret _, fun σ F H R st q => PI_.b (pi_enum hg hm (pa_cons pe_b pa_nil hs) hs) (h.run σ F H _ st (h.mono _ _ (fun xs q v F' H' st' l r => by
    unfold eL at r
    cases r with
    | lst hq rs hz => exact ⟨_, _, rfl, SqL.of (st'.sub _ _ hq), q _ F' H' st' l (itok_enum rs (by simpa using hz) fun F2 H2 c s => ⟨c, SqL.of (s _ _ (c _ _ hq))⟩)⟩) q))⟩
theorem dj_enum {p pos tpos : Pos} {ts : List Expr} {kk} (hg : Gl X "enumerate") (hm : X.mg "enumerate" = none) (h : DB X G ρ a w (eL enc)) (hs : starEach [a] X.env = [(false, eval a X.env)] := by rfl) : DJ X G ρ (.Tuple ts kk tpos) (.Call (.Name "enumerate" p) [a] [] pos) (bnd w fun xs => ret (enumI xs)) (e2 D.int enc) :=
  ⟨mono_bnd h.mono fun _ => mono_ret _, fun σ F H R st q => PI_.b (pi_enum hg hm (pa_cons pe_b pa_nil hs) hs) (h.run σ F H _ st (h.mono _ _ (fun xs q v F' H' st' l r => by
    rcases r with r | ⟨a, rfl, ⟨vs, ha, rs, hz⟩, hb⟩
    · unfold eL at r
      cases r with
      | lst hq rs hz => exact ⟨_, _, rfl, SqL.of (st'.sub _ _ hq), q _ F' H' st' l (itok_enum rs (by simpa using hz) fun F2 H2 c s => ⟨c.f, SqL.of (s _ _ (c.f _ _ hq))⟩)⟩
    · exact ⟨a, _, rfl, SqL.of ha, q _ F' H' st' l (itok_enum rs (by simpa using hz) fun F2 H2 c s => ⟨c.f, SqL.of (c.h _ _ ha hb)⟩)⟩) q))⟩
end

/-! ### for -/
def frW {R S α : Type} (fb : S → α → W (Fl R S S)) : List α → S → W (Fl R S Empty)
  | [], s => ret (.nx s)
  | x :: xs, s => bnd (fb s x) fun
    | .nx s' => frW fb xs s'
    | .ct s' => frW fb xs s'
    | .bk s' => ret (.nx s')
    | .rt r => ret (.rt r)
theorem mono_frW {R S α : Type} {fb : S → α → W (Fl R S S)} (hb : ∀ s x, Mono (fb s x)) : ∀ xs s, Mono (frW fb xs s)
  | [], _ => mono_ret _
  | x :: xs, s => mono_bnd (hb s x) fun o => by
    cases o with
    | nx s' => exact mono_frW hb xs s'
    | ct s' => exact mono_frW hb xs s'
    | bk s' => exact mono_ret _
    | rt r => exact mono_ret _
section
variable {X : Cx} {G : Gh} {ρ : List Sl} {α β γ : Type} {R S B S1 : Type} {eR : R → D} {eS : S → List Sl} {eB : B → List Sl} {tg iter e a b c : Expr} {rest : List Stmt} {w : W (List α)} {enc : α → D} {k : Nat} {pos : Pos}
theorem Sta.grow1 {K : PySem.W.Frag} {σ : L2.St} {F H F3 H3 : Hp} (st : Sta K G ρ σ F H) (h : (F3 = F ∧ H3 = H) ∨ ∃ p o, H p = none ∧ F3 = upd F p o ∧ H3 = upd H p o) : Sta K G ρ σ F3 H3 ∧ Le G F H F3 H3 := by
  rcases h with ⟨rfl, rfl⟩ | ⟨p, o, hp, rfl, rfl⟩
  · exact ⟨st, Le.refl _ _ _⟩
  · exact st.laidF hp
theorem ds_for {e1 : S1 → List Sl} {A : List Stmt} {fb : S1 → α → W (Fl R S1 S1)} {wr : S1 → W (Fl R S B)} {s0 : S1} {u : α → List Sl → List Sl} {is : List Nat} (g : Gd X k) (hi : DI X G ρ tg iter w enc) (h0 : Wk ρ (e1 s0))
    (ht : ∀ x, TGt X G tg (enc x) (u x) is) (hb : ∀ s x, DS X G (u x (e1 s)) A eR e1 e1 (fb s x)) (hr : ∀ s, DS X G (e1 s) rest eR eS eB (wr s)) (hs : ∀ x, foldedSetIterable iter X.env x = pure x := by intro _; rfl) :
    DS X G ρ (.For tg iter A [] pos :: rest) eR eS eB (bnd w fun xs => bnd (frW fb xs s0) (thnL wr)) :=
  ⟨mono_bnd hi.mono fun xs => mono_bnd (mono_frW (fun s x => (hb s x).mono) xs s0) (mono_thnL fun s => (hr s).mono), fun σ F H Dn st q => PSs_.b (pss_cons (ps_for g.own g.calm pi_b pg_b pss_b hs) pss_b) (hi.run σ F H _ st (hi.mono _ _ (fun xs q J F' H' st' l it => by
    obtain ⟨Gd', Y, wk, hst, hit⟩ := it.ex
    obtain ⟨F0, e0, st0⟩ := st'.wk h0
    let Pv : Nat → L2.St → Hp → Prop := fun i σ1 H1 => ∃ s F1, Sub F' F1 ∧ Sta X.K G (e1 s) σ1 F1 H1 ∧ frW fb (xs.drop i) s (fun o => thnL wr o (Post X G eR eS eB F Dn))
    refine for_it wk Pv ⟨s0, F0, e0, st0, q⟩ (fun i σ1 H1 hi ⟨s, F1, f1, st1, _⟩ => hst F1 H1 f1 st1.sub) (fun i v σ1 H1 H2 hi ⟨s, F1, f1, st1, q1⟩ y => ?_) fun σ1 H1 ⟨s, F1, f1, st1, q1⟩ => ?_
    · have hx : xs[i]? = some xs[i] := List.getElem?_eq_getElem hi
      obtain ⟨F3, r3, hd⟩ := hit i F1 H1 v H2 xs[i] f1 st1.sub y hx
      obtain ⟨st3, l3⟩ := st1.grow1 hd
      rw [List.drop_eq_getElem_cons hi] at q1
      refine (ht xs[i]).run _ σ1 F3 H2 v _ st3 r3 fun σ2 st2 _ => ?_
      refine (hb s xs[i]).run σ2 F3 H2 _ st2 ((hb s xs[i]).mono _ _ (fun o q => ?_) q1)
      have f3 := f1.trans l3.f
      cases o with
      | nx s' => exact fun σ' F4 H4 st4 e4 => ⟨s', F4, f3.trans e4, st4, q⟩
      | ct s' => exact fun σ' F4 H4 st4 e4 => ⟨s', F4, f3.trans e4, st4, q⟩
      | bk s' => exact fun σ' F4 H4 st4 e4 => (hr s').run σ' F4 H4 Dn st4 ((hr s').mono _ _ (fun o => Post.mono (l.f.trans (f3.trans e4))) q)
      | rt r => exact fun v F4 H4 fn e4 rp => q v F4 H4 fn (l.f.trans (f3.trans e4)) rp
    · rw [List.drop_eq_nil_of_le (Nat.le_refl _)] at q1
      exact (hr s).run σ1 F1 H1 Dn st1 ((hr s).mono _ _ (fun o => Post.mono (l.f.trans f1)) q1)) q))⟩
end

/-! ### comprehensions -/
def cmW {α β : Type} (fc : α → W Bool) (fe : α → W β) : List α → W (List β)
  | [] => ret []
  | x :: xs => bnd (fc x) fun b => if b then bnd (fe x) fun y => bnd (cmW fc fe xs) fun ys => ret (y :: ys) else cmW fc fe xs
theorem mono_cmW {α β : Type} {fc : α → W Bool} {fe : α → W β} (hc : ∀ x, Mono (fc x)) (he : ∀ x, Mono (fe x)) : ∀ xs, Mono (cmW fc fe xs)
  | [] => mono_ret _
  | x :: xs => mono_bnd (hc x) fun b => mono_ite (mono_bnd (he x) fun _ => mono_bnd (mono_cmW hc he xs) fun _ => mono_ret _) (mono_cmW hc he xs)
def wipeS (ρ : List Sl) : List Nat → List Sl
  | [] => ρ
  | v :: vs => (wipeS ρ vs).set v .un
structure DF (X : Cx) (G : Gh) (ρ : List Sl) (ifs : List Expr) (w : W Bool) : Prop where
  mono : Mono w
  run : ∀ σ F H Q, Sta X.K G ρ σ F H → w (fun b => ∀ F' H', Sta X.K G ρ σ F' H' → Le G F H F' H' → Q b H') → ∃ t : TT, PTs X ifs t ∧ t σ H Q
def IsBlk (X : Cx) (scope : Scope) (X' : Cx) : Prop := ∃ s H C cl fp, X' = X.blk s H scope (compEnvC scope cl C X.env) fp
def kG (X : Cx) (scope : Scope) (tg : Expr) : TG := fun v σ H Q => ∀ X', IsBlk X scope X' → bG X' tg v σ H Q
def kT (X : Cx) (scope : Scope) (ifs : List Expr) : TT := fun σ H Q => ∀ X', IsBlk X scope X' → ∃ t : TT, PTs X' ifs t ∧ t σ H Q
def kE (X : Cx) (scope : Scope) (e : Expr) : TE := fun σ H Q => ∀ X', IsBlk X scope X' → bE X' e σ H Q
section
variable {X : Cx} {G : Gh} {ρ : List Sl} {α β γ : Type} {tg iter e a b c elt : Expr} {ifs : List Expr} {w : W (List α)} {enc : α → D} {eb : β → D} {k : Nat} {pos : Pos} {scope : Scope}
theorem df_nil : DF X G ρ [] (ret true) := ⟨mono_ret _, fun σ F H Q st q => ⟨tYes, pts_nil, q F H st (Le.refl _ _ _)⟩⟩
theorem df_one {w : W Bool} (h : DT X G ρ c w) : DF X G ρ [c] w := ⟨h.mono, fun σ F H Q st q => ⟨bT X c, pts_one pt_b, h.run σ F H Q st q⟩⟩
end
end Dt
/-! Dt5: comprehensions, calls of defs, defs. -/
namespace Dt
open PySem PySem.Spec PyProof.Rows L2

section
variable {K : PySem.W.Frag} {G : Gh} {ρ : List Sl} {σ : L2.St} {F H : Hp}
theorem wipeS_length (ρ : List Sl) : ∀ vs : List Nat, (wipeS ρ vs).length = ρ.length
  | [] => rfl
  | v :: vs => by unfold wipeS; rw [List.length_set, wipeS_length ρ vs]
/-- the block's own slots forgotten -/
theorem Sta.wipe (st : Sta K G ρ σ F H) : ∀ vs : List Nat, Sta K G (wipeS ρ vs) (L2.wipe σ vs) F H
  | [] => st
  | v :: vs => by
    have st1 := (Sta.wipe st vs).drop v
    unfold wipeS
    unfold L2.wipe
    refine ⟨by rw [List.length_set, List.length_set, wipe_length, wipeS_length]; exact st.len, fun i s e => ?_, fun i j d1 d2 a n e1 e2 h1 h2 => ?_, st.sub, st.ent, st.new, st.f0, st.box⟩
    · obtain ⟨x, h1, h2⟩ := st1.sl i s e
      by_cases hi : i = v
      · subst hi
        have hl : i < (L2.wipe σ vs).length := (List.getElem?_eq_some_iff.mp h1).1
        rcases get_set e with ⟨_, rfl⟩ | ⟨n, _⟩
        · exact ⟨none, List.getElem?_set_self hl, trivial⟩
        · exact absurd rfl n
      · exact ⟨x, by rw [set_ne' hi]; exact h1, h2⟩
    · have hne : ∀ {i : Nat} {d : D}, ((wipeS ρ vs).set v .un)[i]? = some (.ow d) → i ≠ v := fun {i d} e => by
        rcases get_set e with ⟨_, z⟩ | ⟨n, _⟩
        · cases z
        · exact n
      rw [set_ne' (hne e1)] at h1
      rw [set_ne' (hne e2)] at h2
      exact st1.ne i j d1 d2 a n e1 e2 h1 h2
/-- an untracked object changes -/
theorem Sta.updU {a : Addr} {o u : HO} (st : Sta K G ρ σ F H) (h : H a = some u) (hF : F a = none) (h0 : G.H0 a = none) (hb : G.bx ≠ some a) (hs : ∀ (i : Nat) d, ρ[i]? = some (.ow d) → σ[i]? ≠ some (some (V.ref a))) : Sta K G ρ σ F (upd H a o) where
  len := st.len
  sl := fun i s e => by
    obtain ⟨x, h1, h2⟩ := st.sl i s e
    refine ⟨x, h1, ?_⟩
    cases s with
    | un => trivial
    | fr d => exact h2
    | ob => exact h2
    | ow d =>
      obtain ⟨b, eb, ow, n, h0, hb⟩ := h2
      have nb : b ≠ a := fun z => hs i d e (by rw [h1, eb, z])
      exact ⟨b, eb, ow.mono (Sub.refl F) (fun u q => by rw [upd_ne nb]; exact q), n, h0, hb⟩
  ne := st.ne
  sub := fun b x e => by
    have nb : b ≠ a := fun z => by rw [z, hF] at e; cases e
    rw [upd_ne nb]
    exact st.sub b x e
  ent := fun b x e n => by
    have nb : b ≠ a := fun z => by rw [z, h0] at e; cases e
    rw [upd_ne nb]
    exact st.ent b x e n
  new := st.new
  f0 := st.f0
  box := fun c e => by
    obtain ⟨b, n⟩ := st.box c e
    have nb : c ≠ a := fun z => hb (by rw [e, z])
    exact ⟨b.mono (Sub.refl F) fun o q => by rw [upd_ne nb]; exact q, n⟩
end

section
variable {X : Cx} {G : Gh} {ρ : List Sl} {α β γ : Type} {tg iter e a b c elt : Expr} {ifs : List Expr} {w : W (List α)} {enc : α → D} {eb : β → D} {k : Nat} {pos : Pos} {scope : Scope} {N : List Str} {sc : Scope} {i : Nat} {x : Str}
theorem wipe_wipe (σ : L2.St) (vs : List Nat) : L2.wipe (L2.wipe σ vs) vs = L2.wipe σ vs := by
  refine List.ext_getElem? fun j => ?_
  by_cases hj : j ∈ vs
  · by_cases hl : j < σ.length
    · rw [wipe_none_self hj (by rw [wipe_length]; exact hl), wipe_none_self hj hl]
    · rw [List.getElem?_eq_none (by rw [wipe_length, wipe_length]; omega), List.getElem?_eq_none (by rw [wipe_length]; omega)]
  · rw [wipe_out' hj]
/-- the reading of [elt for tg in iter if ..] -/
abbrev tCm (X : Cx) (scope : Scope) (tg iter elt : Expr) (ifs : List Expr) (own : List (Str × Nat)) : TE := tLc (bI X tg iter) (kG X scope tg) (kT X scope ifs) (kE X scope elt) (own.map (·.2))
theorem blk_self (s : Shared) (H : Hp) (C : Addr) (cl : List (Str × Addr)) (fp : List Addr) : IsBlk X scope (X.blk s H scope (compEnvC scope cl C X.env) fp) := ⟨s, H, C, cl, fp, rfl⟩
theorem pe_cm {own : List (Str × Nat)} (g : Gd X k) (hs : Sc X N sc) (ok : BlkOk N sc scope own) (hf : ∀ x, foldedSetIterable iter X.env x = pure x := by intro _; rfl) : PE X (.ListComp elt [⟨tg, iter, ifs, 0⟩] scope pos) (tCm X scope tg iter elt ifs own) :=
  pe_lc (own := own) g.calm g.nd pi_b (by rw [hs.N, hs.s]; exact ok) (fun s H C cl fp => ⟨fun pins s' σ H' v u Q I r h => h _ (blk_self s H C cl fp) pins s' u I r⟩)
    (fun s H C cl fp => ⟨fun pins s' σ H' Q I h => by
      obtain ⟨t, p, q⟩ := h _ (blk_self s H C cl fp)
      exact p.run pins s' σ H' Q I q⟩) (fun s H C cl fp => ⟨fun pins s' σ H' Q I h => h _ (blk_self s H C cl fp) pins s' I⟩) hf
theorem ps_setCm {own : List (Str × Nat)} {py spos : Pos} (g : Gd X k) (hs : Sc X N sc) (ok : BlkOk N sc scope own) (hN : N[i]? = some x) (hl : sc.names.lookup x = some .local) (hk : sc.kind = .function) (hp : (py.line == pos.line) = true)
    (ha : (scope.names.any fun (n, k) => n == x && (k == .local || k == .cell)) = false) (hf : ∀ x, foldedSetIterable iter X.env x = pure x := by intro _; rfl) :
    PS X (.Assign [.Name x py] (.ListComp elt [⟨tg, iter, ifs, 0⟩] scope pos) spos) (tAsg (tCm X scope tg iter elt ifs own) (gName i)) :=
  ps_setLc (own := own) g.calm g.nd (by rw [hs.N]; exact hN) (by rw [hs.s]; exact hl) (sw_true (by rw [hs.s]; exact hk) (by rw [hs.s]; exact hl) hp ha) pi_b (by rw [hs.N, hs.s]; exact ok) (fun s H C cl fp => ⟨fun pins s' σ H' v u Q I r h => h _ (blk_self s H C cl fp) pins s' u I r⟩)
    (fun s H C cl fp => ⟨fun pins s' σ H' Q I h => by
      obtain ⟨t, p, q⟩ := h _ (blk_self s H C cl fp)
      exact p.run pins s' σ H' Q I q⟩) (fun s H C cl fp => ⟨fun pins s' σ H' Q I h => h _ (blk_self s H C cl fp) pins s' I⟩) hf
theorem blkK {X X' : Cx} {scope : Scope} (h : IsBlk X scope X') : X'.K = X.K := by
  obtain ⟨_, _, _, _, _, rfl⟩ := h
  rfl
theorem lq_cm {own : List (Str × Nat)} {fc : α → W Bool} {fe : α → W β} {u : α → List Sl → List Sl} {is : List Nat} (hi : DJ X G ρ tg iter w enc)
    (ht : ∀ X', IsBlk X scope X' → ∀ x, TGt X' G tg (enc x) (u x) is) (his : ∀ i ∈ is, i ∈ own.map (·.2))
    (hc : ∀ X', IsBlk X scope X' → ∀ x, DF X' G (u x (wipeS ρ (own.map (·.2)))) ifs (fc x)) (he : ∀ X', IsBlk X scope X' → ∀ x, DE X' G (u x (wipeS ρ (own.map (·.2)))) elt (fe x) eb) :
    LQ X G ρ (tCm X scope tg iter elt ifs own) (bnd w (cmW fc fe)) (eL eb) :=
  have mc : ∀ x, Mono (fc x) := fun x => (hc _ (blk_self X.s_0 X.H_0 0 [] []) x).mono
  have me : ∀ x, Mono (fe x) := fun x => (he _ (blk_self X.s_0 X.H_0 0 [] []) x).mono
  ⟨mono_bnd hi.mono fun xs => mono_cmW mc me xs, fun σ F H Q st q => hi.run σ F H _ st (hi.mono _ _ (fun xs q J F' H' st' l it => by
    intro Da hD
    obtain ⟨Gd', Y, wk, hst, hit⟩ := it.ex
    generalize hvs : own.map (·.2) = vs at *
    obtain ⟨hD0, hDb, hDF⟩ := st'.hn hD
    have stw := st'.wipe vs
    have nsl : ∀ (i : Nat) d, (wipeS ρ vs)[i]? = some (.ow d) → (L2.wipe σ vs)[i]? ≠ some (some (V.ref Da)) := fun i d e z => by
      obtain ⟨x, h1, b, h2, ow, _⟩ := stw.sl i _ e
      rw [h1, h2] at z
      cases z
      obtain ⟨u', hu'⟩ := ow.some
      rw [hD] at hu'
      cases hu'
    have st0 := (stw.laid (o := .lst []) hD).1
    have hDH : H Da = none := by
      cases y : H Da with
      | none => rfl
      | some u =>
        have := l.h Da u y hDb
        rw [hD] at this
        cases this
    -- all of the heap ahead, but for the box, stands
    let Pv : Nat → Hp → Prop := fun i H1 => ∃ F1 acc ys, Le G F' H' F1 H1 ∧ Sta X.K G (wipeS ρ vs) (L2.wipe σ vs) F1 H1 ∧ Sta X.K G ρ σ F1 H1 ∧ H1 Da = some (.lst acc) ∧ F1 Da = none ∧ Reps X.K F1 acc (ys.map eb) ∧ ys.length ≤ i ∧
      cmW fc fe (xs.drop i) (fun zs => ∀ a F2 H2, Sta X.K G ρ σ F2 H2 → Le G F H F2 H2 → H a = none → F2 a = none → OwnAt X.K F2 H2 a (eL eb (ys ++ zs)) → Q (.ref a) H2)
    refine lc_it wk Pv ⟨F', [], [], (st'.laid (o := .lst []) hD).2, st0, (st'.laid (o := .lst []) hD).1, upd_same, hDF, .nil, Nat.zero_le _, q⟩ ?_ ?_ ?_
    · rintro i H1 hi ⟨F1, acc, ys, l1, st1, _⟩
      exact hst F1 H1 l1 st1.sub
    · rintro i v H1 H2 hi ⟨F1, acc, ys, l1, st1, st1', hacc, hF1, rs, hys, q1⟩ y
      have hx : xs[i]? = some xs[i] := List.getElem?_eq_getElem hi
      obtain ⟨F3, r3, hd⟩ := hit i F1 H1 v H2 xs[i] l1 st1.sub y hx
      obtain ⟨st3, l3⟩ := st1.grow1 hd
      obtain ⟨st3', _⟩ := st1'.grow1 hd
      have hF3 : F3 Da = none := by
        rcases hd with ⟨rfl, rfl⟩ | ⟨p, o, hp, rfl, rfl⟩
        · exact hF1
        · rw [upd_ne (ne_of_none hacc hp)]; exact hF1
      have hacc3 : H2 Da = some (.lst acc) := l3.h Da _ hacc hDb
      rw [List.drop_eq_getElem_cons hi] at q1
      intro X' hX'
      refine (ht X' hX' xs[i]).run _ _ F3 H2 v _ (by rw [blkK hX']; exact st3) (by rw [blkK hX']; exact r3) fun σ2 st2 hw => ⟨(hw vs his).trans (wipe_wipe σ vs), ?_⟩
      have nsl' : ∀ (i : Nat) d, ρ[i]? = some (.ow d) → σ[i]? ≠ some (some (V.ref Da)) := fun i d e z => by
        obtain ⟨x, h1, b, h2, ow, _⟩ := st'.sl i _ e
        rw [h1, h2] at z
        cases z
        obtain ⟨u', hu'⟩ := ow.some
        rw [hD] at hu'
        cases hu'
      -- what every later state keeps
      have keep : ∀ {σ' : L2.St} {F4 H4 : Hp}, Le G F3 H2 F4 H4 → Sta X.K G (u xs[i] (wipeS ρ vs)) σ' F4 H4 → Sta X.K G (wipeS ρ vs) (L2.wipe σ vs) F4 H4 ∧ Sta X.K G ρ σ F4 H4 ∧ H4 Da = some (.lst acc) ∧ F4 Da = none := fun {σ' F4 H4} l4 s4 =>
        ⟨st3.ext l4 s4.sub fun c e => (s4.box c e).1, st3'.ext l4 s4.sub fun c e => (s4.box c e).1, l4.h Da _ hacc3 hDb, by
          cases z : F4 Da with
          | none => rfl
          | some o =>
            rcases l4.n Da o z with h | h
            · rw [hF3] at h; cases h
            · rw [hacc3] at h; cases h⟩
      intro X2 hX2
      have eK : X'.K = X2.K := (blkK hX').trans (blkK hX2).symm
      refine (hc X2 hX2 xs[i]).run σ2 F3 H2 _ (by rw [← eK]; exact st2) ((hc X2 hX2 xs[i]).mono _ _ (fun b q F4 H4 st4 l4 => ?_) q1)
      rw [blkK hX2] at st4
      obtain ⟨k1, k2, k3, k4⟩ := keep l4 st4
      cases b with
      | false =>
        simp only [Bool.false_eq_true, if_false] at q ⊢
        exact ⟨F4, acc, ys, (l1.trans l3).trans l4, k1, k2, k3, k4, rs.mono (l3.f.trans l4.f), Nat.le_succ_of_le hys, q⟩
      | true =>
        simp only [if_true] at q ⊢
        intro X3 hX3
        refine (he X3 hX3 xs[i]).run σ2 F4 H4 _ (by rw [blkK hX3]; exact st4) ((he X3 hX3 xs[i]).mono _ _ (fun y q v5 F5 H5 st5 l5 r5 => ?_) q)
        rw [blkK hX3] at st5 r5
        have l45 := l4.trans l5
        obtain ⟨m1, m2, m3, m4⟩ := keep l45 st5
        have hal : acc.length = ys.length := by rw [rs.len, List.length_map]
        have l6 : Le G F' H' F5 (upd H5 Da (.lst (acc ++ [v5]))) := by
          have l := (l1.trans l3).trans l45
          refine ⟨l.f, fun a o e n => ?_, l.n, fun c e n => ?_⟩
          · rw [upd_ne (ne_of_none e hD)]
            exact l.h a o e n
          · have nb : c ≠ Da := fun z => hDb (by rw [e, z])
            rw [upd_ne nb]
            exact l.b c e n
        refine ⟨acc, m3, ?_, F5, acc ++ [v5], ys ++ [y], l6, m1.updU m3 m4 hD0 hDb nsl, m2.updU m3 m4 hD0 hDb nsl', upd_same, m4, ?_, ?_, ?_⟩
        · have := it.hz
          omega
        · rw [List.map_append]
          exact (rs.mono (l3.f.trans l45.f)).app (.one r5)
        · rw [List.length_append]
          exact Nat.succ_le_succ hys
        · exact mono_cmW mc me _ _ _ (fun zs q a F2 H2 s1 s2 s3 s4 s5 => q a F2 H2 s1 s2 s3 s4 (by rw [List.append_assoc] at s5; exact s5)) q
    · rintro H1 ⟨F1, acc, ys, l1, st1, st1', hacc, hF1, rs, hys, q1⟩
      rw [List.drop_eq_nil_of_le (Nat.le_refl _)] at q1
      have q2 := q1 Da F1 H1 st1' (l.trans l1) hDH hF1 ⟨acc, hacc, by rw [List.append_nil]; exact rs, by simp only [List.append_nil, List.length_map]; exact Nat.le_trans hys it.hz⟩
      exact q2) q)⟩
theorem dl_cm {own : List (Str × Nat)} {w : W β} {enc : β → D} (g : Gd X k) (hs : Sc X N sc) (ok : BlkOk N sc scope own) (h : LQ X G ρ (tCm X scope tg iter elt ifs own) w enc) (hf : ∀ x, foldedSetIterable iter X.env x = pure x := by intro _; rfl) :
    DL X G ρ (.ListComp elt [⟨tg, iter, ifs, 0⟩] scope pos) w enc := ⟨h.mono, fun σ F H Q st q => PE_.b (pe_cm g hs ok hf) (h.run σ F H Q st q)⟩
end
end Dt
/-! Dt6: calls of defs, defs. -/
namespace Dt
open PySem PySem.Spec PyProof.Rows L2

structure Md where
  P : Program
  w : World
  K : PySem.W.Frag
  mg : Str → Option Value
  base : Heap
def md (X : Cx) : Md := ⟨X.prog, X.w, X.K, X.mg, X.base⟩

/-- a def's promise: frozen arguments, what it answers by dw -/
def SpW (K : PySem.W.Frag) (n : Nat) (dw : List D → W D) : Sp := fun vs H Q _ => ∃ F ds, Sub F H ∧ Reps K F vs ds ∧ ds.length = n ∧
  dw ds (fun r => ∀ v F' H', Sub F F' → Sub H H' → Sub F' H' → (∀ a o, F' a = some o → F a = some o ∨ H a = none) → Rep K F' v r → Q v H')
/-- .. with the box ahead -/
def SpB (K : PySem.W.Frag) (n : Nat) (dw : List D → W D) : Sp := fun vs H Q _ => ∃ c p us F ds, vs = .ref c :: us ∧ BoxAt K p F H c ∧ F c = none ∧ Sub F H ∧ Reps K F us ds ∧ ds.length = n ∧
  dw ds (fun r => ∀ v F' H', Sub F F' → (∀ a o, H a = some o → a ≠ c → H' a = some o) → Sub F' H' → (∀ a o, F' a = some o → F a = some o ∨ H a = none) → BoxAt K p F' H' c → Rep K F' v r → Q v H')
structure FnAt (M : Md) (k : Nat) (x : Str) (n : Nat) (dw : List D → W D) : Prop where
  mono : ∀ ds, Mono (dw ds)
  ex : ∃ f fd ps, ps.length = n ∧ FnOk M.P M.w M.K M.mg M.base CX0 k f fd ps (SpW M.K n dw) ∧ M.mg x = some (.ref f) ∧ PySem.W.keepIn M.K (.ref f) = true ∧ Binds M.K fd ps []
structure FnBx (M : Md) (k : Nat) (x : Str) (n : Nat) (dw : List D → W D) : Prop where
  mono : ∀ ds, Mono (dw ds)
  ex : ∃ f fd ps, ps.length = n + 1 ∧ FnOk M.P M.w M.K M.mg M.base CX0 k f fd ps (SpB M.K n dw) ∧ M.mg x = some (.ref f) ∧ PySem.W.keepIn M.K (.ref f) = true ∧ Binds M.K fd ps []

section
variable {X : Cx} {G : Gh} {ρ : List Sl} {α β γ δ ε : Type} {e a b c e4 e5 : Expr} {es : List Expr} {k k' n : Nat} {x : Str} {p pos : Pos} {dw : List D → W D} {wa : W (List D)} {N : List Str} {sc : Scope} {i : Nat}
theorem de_callD (F : FnAt (md X) k' x n dw) (g : Gd X k) (hk : k' ≤ k) (hg : Gl X x) (ha : DA X G ρ (e :: es) wa) (hl : ∀ P, wa P → wa fun ds => ds.length = n ∧ P ds) (hdb : (x == ("__debug__" : Str)) = false := by decide)
    (he : starEach (e :: es) X.env = (false, eval e X.env) :: starEach es X.env := by rfl) (hpl : (backTo pos (starEach es X.env)).any (·.1) = false := by rfl) : DE X G ρ (.Call (.Name x p) (e :: es) [] pos) (bnd wa dw) id := by
  obtain ⟨f, fd, ps, hn, hf, hm, hkp, hb⟩ := F.ex
  exact ⟨mono_bnd ha.mono fun ds => F.mono ds, fun σ F0 H Q st q => PE_.b (pe_call (X := X) hf (g.room.mono hk) hg hm hkp hb .nil pass0 pa_b hdb he hpl) (ha.run σ F0 H _ st (ha.mono _ _ (fun ds ⟨hz, q⟩ vs F' H' st' l rs => by
    refine ⟨F', ds, st'.sub, by rw [List.append_nil]; exact rs, hz, F.mono ds _ _ (fun r q v F2 H2 h1 h2 h3 h4 h5 => ?_) q⟩
    have l2 : Le G F' H' F2 H2 := .of h1 h2 h4
    exact q v F2 H2 (st'.ext l2 h3 fun c e => (st'.box c e).1.mono h1 (h2 c)) (l.trans l2) h5) (hl _ q)))⟩
theorem de_call0 {r : W D} (F : FnAt (md X) k' x 0 dw) (g : Gd X k) (hk : k' ≤ k) (hg : Gl X x) (hdb : (x == ("__debug__" : Str)) = false := by decide) : DE X G ρ (.Call (.Name x p) [] [] pos) (dw []) id := by
  obtain ⟨f, fd, ps, hn, hf, hm, hkp, hb⟩ := F.ex
  exact ⟨F.mono [], fun σ F0 H Q st q => PE_.b (pe_call0 (X := X) hf (g.room.mono hk) hg hm hkp hb .nil pass0 hdb) (by
    refine ⟨F0, [], st.sub, .nil, rfl, F.mono [] _ _ (fun r q v F2 H2 h1 h2 h3 h4 h5 => ?_) q⟩
    have l2 : Le G F0 H F2 H2 := .of h1 h2 h4
    exact q v F2 H2 (st.ext l2 h3 fun c e => (st.box c e).1.mono h1 (h2 c)) l2 h5)⟩
/-- a call with the box ahead -/
theorem de_callB {bx : Str} {bp : Pos} (F : FnBx (md X) k' x n dw) (g : Gd X k) (hk : k' ≤ k) (hs : Sc X N sc) (hN : N[i]? = some bx) (hv : Vis sc bx) (hρ : ρ[i]? = some .ob) (hg : Gl X x) (ha : DA X G ρ es wa) (hl : ∀ P, wa P → wa fun ds => ds.length = n ∧ P ds)
    (hdb : (x == ("__debug__" : Str)) = false := by decide) (hd : (bx == ("__debug__" : Str)) = false := by decide) (hcd : (bx == ("__classdict__" : Str)) = false := by decide)
    (he : starEach (.Name bx bp :: es) X.env = (false, eval (.Name bx bp) X.env) :: starEach es X.env := by rfl) (hpl : (backTo pos (starEach es X.env)).any (·.1) = false := by rfl) : DE X G ρ (.Call (.Name x p) (.Name bx bp :: es) [] pos) (bnd wa dw) id := by
  obtain ⟨f, fd, ps, hn, hf, hm, hkp, hb⟩ := F.ex
  exact ⟨mono_bnd ha.mono fun ds => F.mono ds, fun σ F0 H Q st q => PE_.b (pe_call (X := X) hf (g.room.mono hk) hg hm hkp hb .nil pass0 (pa_cons (pe_var (i := i) (by rw [hs.N]; exact hN) (by rw [hs.s]; exact hv) hd hcd) pa_b he) hdb he hpl) (by
    obtain ⟨_, h1, c, rfl, hbx⟩ := st.sl i _ hρ
    refine ⟨_, h1, ha.run σ F0 H _ st (ha.mono _ _ (fun ds ⟨hz, q⟩ vs F' H' st' l rs => ?_) (hl _ q))⟩
    obtain ⟨hbox, hFc⟩ := st'.box c hbx
    refine ⟨c, G.bp, vs, F', ds, by rw [List.append_nil], hbox, hFc, st'.sub, rs, hz, F.mono ds _ _ (fun r q v F2 H2 h1 h2 h3 h4 h5 h6 => ?_) q⟩
    have l2 : Le G F' H' F2 H2 := ⟨h1, fun a o e n => h2 a o e fun z => n (by rw [z]; exact hbx), h4, fun c' e _ => by
      rw [hbx] at e
      cases e
      obtain ⟨_, _, z, _⟩ := h5
      rw [z]
      exact fun z => nomatch z⟩
    exact q v F2 H2 (st'.ext l2 h3 fun c' e => by
      rw [hbx] at e
      cases e
      exact h5) (l.trans l2) h6)⟩
theorem DQ.imp {T : TE} {w : W α} {w' : W β} {enc : α → D} {enc' : β → D} (h : DQ X G ρ T w enc) (m : Mono w') (i : ∀ R : D → Prop, w' (fun y => R (enc' y)) → w fun x => R (enc x)) : DQ X G ρ T w' enc' :=
  ⟨m, fun σ F H Q st q => h.run σ F H Q st (i (fun d => ∀ v F' H', Sta X.K G ρ σ F' H' → Le G F H F' H' → Rep X.K F' v d → Q v H') q)⟩

/-- upwards closed -/
def cl {α : Type} (w : W α) : W α := fun Φ => ∃ P, w P ∧ ∀ x, P x → Φ x
theorem mono_cl {α : Type} (w : W α) : Mono (cl w) := fun P Q i ⟨R, q, h⟩ => ⟨R, q, fun x r => i x (h x r)⟩
theorem le_cl {α : Type} {w : W α} {Φ : α → Prop} (h : w Φ) : cl w Φ := ⟨Φ, h, fun _ r => r⟩
@[simp] theorem cl_ret {α : Type} (x : α) : cl (ret x) = ret x := funext fun Φ => propext ⟨fun ⟨R, q, h⟩ => h x q, fun q => ⟨Φ, q, fun _ r => r⟩⟩
theorem cl_of {α : Type} {w : W α} (h : Mono w) : cl w = w := funext fun Φ => propext ⟨fun ⟨R, q, i⟩ => h R Φ i q, fun q => le_cl q⟩
/-! ### defs of one, two, .. arguments of known kinds -/
def d1 (ea : α → D) (er : ε → D) (f : α → W ε) : List D → W D := fun ds Φ => ∃ x, ds = [ea x] ∧ cl (f x) fun r => Φ (er r)
def d2 (ea : α → D) (eb : β → D) (er : ε → D) (f : α → β → W ε) : List D → W D := fun ds Φ => ∃ x y, ds = [ea x, eb y] ∧ cl (f x y) fun r => Φ (er r)
def d3 (ea : α → D) (eb : β → D) (ec : γ → D) (er : ε → D) (f : α → β → γ → W ε) : List D → W D := fun ds Φ => ∃ x y z, ds = [ea x, eb y, ec z] ∧ cl (f x y z) fun r => Φ (er r)
def d4 (ea : α → D) (eb : β → D) (ec : γ → D) (ed : δ → D) (er : ε → D) (f : α → β → γ → δ → W ε) : List D → W D := fun ds Φ => ∃ x y z u, ds = [ea x, eb y, ec z, ed u] ∧ cl (f x y z u) fun r => Φ (er r)
section
variable {ea : α → D} {eb : β → D} {ec : γ → D} {ed : δ → D} {er : ε → D} {wa : W α} {wb : W β} {wc : W γ} {wd : W δ}
theorem mono_d1 {f : α → W ε} (ds : List D) : Mono (d1 ea er f ds) := fun P Q i ⟨x, e, q⟩ => ⟨x, e, mono_cl (f x) _ _ (fun r => i _) q⟩
theorem mono_d2 {f : α → β → W ε} (ds : List D) : Mono (d2 ea eb er f ds) := fun P Q i ⟨x, y, e, q⟩ => ⟨x, y, e, mono_cl (f x y) _ _ (fun r => i _) q⟩
theorem mono_d3 {f : α → β → γ → W ε} (ds : List D) : Mono (d3 ea eb ec er f ds) := fun P Q i ⟨x, y, z, e, q⟩ => ⟨x, y, z, e, mono_cl (f x y z) _ _ (fun r => i _) q⟩
theorem mono_d4 {f : α → β → γ → δ → W ε} (ds : List D) : Mono (d4 ea eb ec ed er f ds) := fun P Q i ⟨x, y, z, u, e, q⟩ => ⟨x, y, z, u, e, mono_cl (f x y z u) _ _ (fun r => i _) q⟩
abbrev St1 (X : Cx) (a : Expr) : Prop := starEach [a] X.env = (false, eval a X.env) :: starEach [] X.env
abbrev St2 (X : Cx) (a b : Expr) : Prop := starEach [a, b] X.env = (false, eval a X.env) :: starEach [b] X.env
theorem de_call1 {f : α → W ε} (F : FnAt (md X) k' x 1 (d1 ea er f)) (g : Gd X k) (hk : k' ≤ k) (hg : Gl X x) (ha : DE X G ρ a wa ea) (hdb : (x == ("__debug__" : Str)) = false := by decide)
    (he : starEach [a] X.env = (false, eval a X.env) :: starEach [] X.env := by rfl) : DE X G ρ (.Call (.Name x p) [a] [] pos) (bnd wa fun x => cl (f x)) er :=
  (de_callD F g hk hg (da_cons ha da_nil he) (fun P q => ha.mono _ _ (fun x q => ⟨rfl, q⟩) q) hdb he).imp (mono_bnd ha.mono fun _ => mono_cl _) fun R q => ha.mono _ _ (fun x q => ⟨x, rfl, q⟩) q
theorem de_call2 {f : α → β → W ε} (F : FnAt (md X) k' x 2 (d2 ea eb er f)) (g : Gd X k) (hk : k' ≤ k) (hg : Gl X x) (ha : DE X G ρ a wa ea) (hb : DE X G ρ b wb eb) (hdb : (x == ("__debug__" : Str)) = false := by decide)
    (he : starEach [a, b] X.env = (false, eval a X.env) :: starEach [b] X.env := by rfl) (he2 : starEach [b] X.env = (false, eval b X.env) :: starEach [] X.env := by rfl) (hpl : (backTo pos (starEach [b] X.env)).any (·.1) = false := by rfl) :
    DE X G ρ (.Call (.Name x p) [a, b] [] pos) (bnd wa fun x => bnd wb fun y => cl (f x y)) er :=
  (de_callD F g hk hg (da_cons ha (da_cons hb da_nil he2) he) (fun P q => ha.mono _ _ (fun x q => hb.mono _ _ (fun y q => ⟨rfl, q⟩) q) q) hdb he hpl).imp (mono_bnd ha.mono fun x => mono_bnd hb.mono fun y => mono_cl _)
    fun R q => ha.mono _ _ (fun x q => hb.mono _ _ (fun y q => ⟨x, y, rfl, q⟩) q) q
theorem de_call3 {f : α → β → γ → W ε} (F : FnAt (md X) k' x 3 (d3 ea eb ec er f)) (g : Gd X k) (hk : k' ≤ k) (hg : Gl X x) (ha : DE X G ρ a wa ea) (hb : DE X G ρ b wb eb) (hc : DE X G ρ c wc ec) (hdb : (x == ("__debug__" : Str)) = false := by decide)
    (he : starEach [a, b, c] X.env = (false, eval a X.env) :: starEach [b, c] X.env := by rfl) (he2 : starEach [b, c] X.env = (false, eval b X.env) :: starEach [c] X.env := by rfl) (he3 : starEach [c] X.env = (false, eval c X.env) :: starEach [] X.env := by rfl) (hpl : (backTo pos (starEach [b, c] X.env)).any (·.1) = false := by rfl) :
    DE X G ρ (.Call (.Name x p) [a, b, c] [] pos) (bnd wa fun x => bnd wb fun y => bnd wc fun z => cl (f x y z)) er :=
  (de_callD F g hk hg (da_cons ha (da_cons hb (da_cons hc da_nil he3) he2) he) (fun P q => ha.mono _ _ (fun x q => hb.mono _ _ (fun y q => hc.mono _ _ (fun z q => ⟨rfl, q⟩) q) q) q) hdb he hpl).imp (mono_bnd ha.mono fun x => mono_bnd hb.mono fun y => mono_bnd hc.mono fun z => mono_cl _)
    fun R q => ha.mono _ _ (fun x q => hb.mono _ _ (fun y q => hc.mono _ _ (fun z q => ⟨x, y, z, rfl, q⟩) q) q) q
theorem de_call4 {f : α → β → γ → δ → W ε} (F : FnAt (md X) k' x 4 (d4 ea eb ec ed er f)) (g : Gd X k) (hk : k' ≤ k) (hg : Gl X x) (ha : DE X G ρ a wa ea) (hb : DE X G ρ b wb eb) (hc : DE X G ρ c wc ec) (hd : DE X G ρ e4 wd ed) (hdb : (x == ("__debug__" : Str)) = false := by decide)
    (he : starEach [a, b, c, e4] X.env = (false, eval a X.env) :: starEach [b, c, e4] X.env := by rfl) (he2 : starEach [b, c, e4] X.env = (false, eval b X.env) :: starEach [c, e4] X.env := by rfl) (he3 : starEach [c, e4] X.env = (false, eval c X.env) :: starEach [e4] X.env := by rfl)
    (he4 : starEach [e4] X.env = (false, eval e4 X.env) :: starEach [] X.env := by rfl) (hpl : (backTo pos (starEach [b, c, e4] X.env)).any (·.1) = false := by rfl) :
    DE X G ρ (.Call (.Name x p) [a, b, c, e4] [] pos) (bnd wa fun x => bnd wb fun y => bnd wc fun z => bnd wd fun u => cl (f x y z u)) er :=
  (de_callD F g hk hg (da_cons ha (da_cons hb (da_cons hc (da_cons hd da_nil he4) he3) he2) he) (fun P q => ha.mono _ _ (fun x q => hb.mono _ _ (fun y q => hc.mono _ _ (fun z q => hd.mono _ _ (fun u q => ⟨rfl, q⟩) q) q) q) q) hdb he hpl).imp
    (mono_bnd ha.mono fun x => mono_bnd hb.mono fun y => mono_bnd hc.mono fun z => mono_bnd hd.mono fun u => mono_cl _)
    fun R q => ha.mono _ _ (fun x q => hb.mono _ _ (fun y q => hc.mono _ _ (fun z q => hd.mono _ _ (fun u q => ⟨x, y, z, u, rfl, q⟩) q) q) q) q
/-! with the box -/
def d0 (er : ε → D) (f : W ε) : List D → W D := fun ds Φ => ds = [] ∧ cl f fun r => Φ (er r)
theorem mono_d0 {f : W ε} (ds : List D) : Mono (d0 er f ds) := fun P Q i ⟨e, q⟩ => ⟨e, mono_cl f _ _ (fun r => i _) q⟩
section
variable {bx : Str} {bp : Pos}
theorem de_box0 {f : W ε} (F : FnBx (md X) k' x 0 (d0 er f)) (g : Gd X k) (hk : k' ≤ k) (hs : Sc X N sc) (hN : N[i]? = some bx) (hv : Vis sc bx) (hρ : ρ[i]? = some .ob) (hg : Gl X x)
    (hdb : (x == ("__debug__" : Str)) = false := by decide) (hd : (bx == ("__debug__" : Str)) = false := by decide) (hcd : (bx == ("__classdict__" : Str)) = false := by decide)
    (he : starEach [.Name bx bp] X.env = (false, eval (.Name bx bp) X.env) :: starEach [] X.env := by rfl) : DE X G ρ (.Call (.Name x p) [.Name bx bp] [] pos) (cl f) er :=
  (de_callB F g hk hs hN hv hρ hg da_nil (fun P q => ⟨rfl, q⟩) hdb hd hcd he).imp (mono_cl _) fun R q => ⟨rfl, q⟩
theorem de_box1 {f : α → W ε} (F : FnBx (md X) k' x 1 (d1 ea er f)) (g : Gd X k) (hk : k' ≤ k) (hs : Sc X N sc) (hN : N[i]? = some bx) (hv : Vis sc bx) (hρ : ρ[i]? = some .ob) (hg : Gl X x) (ha : DE X G ρ a wa ea)
    (hdb : (x == ("__debug__" : Str)) = false := by decide) (hd : (bx == ("__debug__" : Str)) = false := by decide) (hcd : (bx == ("__classdict__" : Str)) = false := by decide)
    (he : starEach [.Name bx bp, a] X.env = (false, eval (.Name bx bp) X.env) :: starEach [a] X.env := by rfl) (he2 : starEach [a] X.env = (false, eval a X.env) :: starEach [] X.env := by rfl) (hpl : (backTo pos (starEach [a] X.env)).any (·.1) = false := by rfl) :
    DE X G ρ (.Call (.Name x p) [.Name bx bp, a] [] pos) (bnd wa fun x => cl (f x)) er :=
  (de_callB F g hk hs hN hv hρ hg (da_cons ha da_nil he2) (fun P q => ha.mono _ _ (fun x q => ⟨rfl, q⟩) q) hdb hd hcd he hpl).imp (mono_bnd ha.mono fun _ => mono_cl _) fun R q => ha.mono _ _ (fun x q => ⟨x, rfl, q⟩) q
theorem de_box2 {f : α → β → W ε} (F : FnBx (md X) k' x 2 (d2 ea eb er f)) (g : Gd X k) (hk : k' ≤ k) (hs : Sc X N sc) (hN : N[i]? = some bx) (hv : Vis sc bx) (hρ : ρ[i]? = some .ob) (hg : Gl X x) (ha : DE X G ρ a wa ea) (hb : DE X G ρ b wb eb)
    (hdb : (x == ("__debug__" : Str)) = false := by decide) (hd : (bx == ("__debug__" : Str)) = false := by decide) (hcd : (bx == ("__classdict__" : Str)) = false := by decide)
    (he : starEach [.Name bx bp, a, b] X.env = (false, eval (.Name bx bp) X.env) :: starEach [a, b] X.env := by rfl) (he2 : starEach [a, b] X.env = (false, eval a X.env) :: starEach [b] X.env := by rfl) (he3 : starEach [b] X.env = (false, eval b X.env) :: starEach [] X.env := by rfl) (hpl : (backTo pos (starEach [a, b] X.env)).any (·.1) = false := by rfl) :
    DE X G ρ (.Call (.Name x p) [.Name bx bp, a, b] [] pos) (bnd wa fun x => bnd wb fun y => cl (f x y)) er :=
  (de_callB F g hk hs hN hv hρ hg (da_cons ha (da_cons hb da_nil he3) he2) (fun P q => ha.mono _ _ (fun x q => hb.mono _ _ (fun y q => ⟨rfl, q⟩) q) q) hdb hd hcd he hpl).imp (mono_bnd ha.mono fun x => mono_bnd hb.mono fun y => mono_cl _)
    fun R q => ha.mono _ _ (fun x q => hb.mono _ _ (fun y q => ⟨x, y, rfl, q⟩) q) q
end
end

/-! ### owned names as arguments, where the answer is a plain value -/
def Flat (enc : α → D) : Prop := ∀ (K : PySem.W.Frag) F F' v x, Rep K F v (enc x) → Rep K F' v (enc x)
theorem flat_int : Flat D.int := fun _ _ _ _ _ r => by cases r; exact .int _
theorem flat_bl : Flat D.bl := fun _ _ _ _ _ r => by cases r; exact .bl _
theorem flat_str : Flat D.str := fun _ _ _ _ _ r => by
  cases r with
  | str _ z => exact .str _ z
theorem flat_o {enc : α → D} (h : Flat enc) : Flat (eO enc) := fun K F F' v x r => by
  cases x with
  | none =>
    have r : Rep K F v .non := r
    cases r
    exact .non
  | some y => exact h K F F' v y r
theorem Sta.unfrz {K : PySem.W.Frag} {σ : L2.St} {F H F1 F' H' : Hp} {d : D} (st : Sta K G ρ σ F H) (e : ρ[i]? = some (.ow d)) (st' : Sta K G (ρ.set i (.fr d)) σ F' H') (l : Le G F1 H F' H') : Sta K G ρ σ F H' ∧ Le G F H F H' := by
  refine ⟨⟨st.len, fun j s ej => ?_, st.ne, fun b u eb => ?_, fun b u eb n => l.h b u (st.ent b u eb n) n, st.new, st.f0, fun c ec => ?_⟩, Sub.refl F, l.h, fun _ _ h => .inl h, l.b⟩
  · obtain ⟨x, h1, h2⟩ := st.sl j s ej
    refine ⟨x, h1, ?_⟩
    cases s with
    | un => trivial
    | fr d => exact h2
    | ob => exact h2
    | ow d =>
      obtain ⟨a, ea, ow, n, h0, hb⟩ := h2
      exact ⟨a, ea, ow.mono (Sub.refl F) (fun u q => l.h a u q hb), n, h0, hb⟩
  · by_cases hb : G.bx = some b
    · have := (st.box b hb).2
      rw [this] at eb
      cases eb
    · exact l.h b u (st.sub b u eb) hb
  · obtain ⟨⟨ds, pos, h1, h2, h3⟩, hF⟩ := st.box c ec
    obtain ⟨⟨ds', pos', h1', h2', h3'⟩, _⟩ := st'.box c ec
    exact ⟨⟨ds, pos', h1', h2, h3'.1, h3.2⟩, hF⟩
theorem DQ.bor {T : TE} {w : W α} {enc : α → D} {d : D} (e : ρ[i]? = some (.ow d)) (fl : Flat enc) (h : DQ X G (ρ.set i (.fr d)) T w enc) : DQ X G ρ T w enc :=
  ⟨h.mono, fun σ F H Q st q => by
    obtain ⟨F1, s1, st1⟩ := st.frz e
    refine h.run σ F1 H Q st1 (h.mono _ _ (fun x q v F' H' st' l r => ?_) q)
    obtain ⟨st2, l2⟩ := st.unfrz e st' l
    exact q v F H' st2 l2 (fl _ _ _ _ _ r)⟩
theorem DT.bor {w : W Bool} {d : D} (e : ρ[i]? = some (.ow d)) (h : DT X G (ρ.set i (.fr d)) a w) : DT X G ρ a w :=
  ⟨h.mono, fun σ F H Q st q => by
    obtain ⟨F1, s1, st1⟩ := st.frz e
    refine h.run σ F1 H Q st1 (h.mono _ _ (fun x q F' H' st' l => ?_) q)
    obtain ⟨st2, l2⟩ := st.unfrz e st' l
    exact q F H' st2 l2⟩
end

/-! ### all of a context -/
structure Ct (X : Cx) (k : Nat) (M : Md) (N : List Str) (sc : Scope) (fp : Str → Bool) : Prop where
  g : Gd X k
  s : Sc X N sc
  m : md X = M
  f : X.fn = fp
section
variable {X X' : Cx} {k k' n : Nat} {M : Md} {N : List Str} {sc scope : Scope} {fp : Str → Bool} {x : Str} {dw : List D → W D}
theorem Ct.mg (c : Ct X k M N sc fp) (h : M.mg x = none) : X.mg x = none := by
  rw [← c.m] at h
  exact h
theorem Ct.fn (c : Ct X k M N sc fp) (F : FnAt M k' x n dw) : FnAt (md X) k' x n dw := c.m.symm ▸ F
theorem Ct.fb (c : Ct X k M N sc fp) (F : FnBx M k' x n dw) : FnBx (md X) k' x n dw := c.m.symm ▸ F
theorem Ct.gl (c : Ct X k M N sc fp) (h : sc.names.lookup x = some .globalImplicit) : Gl X x := by
  show X.env.scope.names.lookup x = _
  rw [c.s.s]
  exact h
theorem Ct.lc (c : Ct X k M N sc fp) (h : sc.names.lookup x = some .local) : X.fn x = true ∨ sc.names.lookup x = some .local := .inr h
theorem Ct.ce (c : Ct X k M N sc fp) (h : fp x = true) : X.fn x = true ∨ sc.names.lookup x = some .local := .inl (by rw [c.f]; exact h)
def fnB (scope : Scope) : Str → Bool := fun x => scope.names.lookup x == some .cell
theorem Ct.blk (c : Ct X k M N sc fp) (h : IsBlk X scope X') : Ct X' k M N (relS scope sc) (fnB scope) := by
  obtain ⟨s, H, C, cl, fp', rfl⟩ := h
  refine ⟨⟨c.g.calm, c.g.nd, c.g.room, rfl⟩, ⟨c.s.N, ?_⟩, c.m, rfl⟩
  show relS scope X.env.scope = _
  rw [c.s.s]
end
def fnT : Str → Bool := fun _ => true
/-- the built-in names, not written over -/
structure Bl (M : Md) : Prop where
  len : M.mg "len" = none
  range : M.mg "range" = none
  int : M.mg "int" = none
  str : M.mg "str" = none
  list : M.mg "list" = none
  tuple : M.mg "tuple" = none
  dict : M.mg "dict" = none
  sorted : M.mg "sorted" = none
  sum : M.mg "sum" = none
  min : M.mg "min" = none
  max : M.mg "max" = none
  all : M.mg "all" = none
  any : M.mg "any" = none
  enumerate : M.mg "enumerate" = none
  zip : M.mg "zip" = none
  reversed : M.mg "reversed" = none
  isinstance : M.mg "isinstance" = none
  repr : M.mg "repr" = none
  bool : M.mg "bool" = none

/-! ### a def's body keeps its promise -/
def fend {R : Type} : Fl R Empty Empty → W R
  | .rt r => ret r
theorem mono_fend {R : Type} : ∀ o : Fl R Empty Empty, Mono (fend o)
  | .rt _ => mono_ret _
def eE (s : Empty) : List Sl := nomatch s
def slots (N : List Str) (ds : List D) : List Sl := ds.map .fr ++ List.replicate (N.length - ds.length) .un
theorem start_sl {K : PySem.W.Frag} {G : Gh} {F H : Hp} {N : List Str} : ∀ {vs : List V} {ds : List D}, Reps K F vs ds → ds.length ≤ N.length →
    (∀ (i : Nat) s, (slots N ds)[i]? = some s → ∃ x, (start N vs)[i]? = some x ∧ SlOk K G F H s x) ∧ (start N vs).length = (slots N ds).length := fun {vs ds} rs hl => by
  have hv := rs.len
  refine ⟨fun i s e => ?_, by simp [L2.start, slots, hv]⟩
  unfold slots at e
  unfold L2.start
  by_cases hi : i < ds.length
  · rw [List.getElem?_append_left (by simpa using hi), List.getElem?_map, List.getElem?_eq_getElem hi] at e
    cases e
    obtain ⟨v, h1, h2⟩ := rs.get (i := i) (d := ds[i]) (List.getElem?_eq_getElem hi)
    refine ⟨some v, ?_, v, rfl, h2⟩
    rw [List.getElem?_append_left (by simpa [hv] using hi), List.getElem?_map, h1]
    rfl
  · rw [List.getElem?_append_right (by simpa using hi), List.getElem?_replicate] at e
    split at e
    · cases e
      rename_i h
      refine ⟨none, ?_, trivial⟩
      rw [List.getElem?_append_right (by simp [hv]; omega), List.getElem?_replicate, if_pos (by simp [hv] at h ⊢; omega)]
    · cases e
theorem start_ne {N : List Str} {ds : List D} (i : Nat) {d : D} : (slots N ds)[i]? ≠ some (.ow d) := fun e => by
  unfold slots at e
  by_cases hi : i < ds.length
  · rw [List.getElem?_append_left (by simpa using hi), List.getElem?_map, List.getElem?_eq_getElem hi] at e
    cases e
  · rw [List.getElem?_append_right (by simpa using hi), List.getElem?_replicate] at e
    split at e <;> cases e

section
variable {M : Md} {N ps : List Str} {k n : Nat} {x qual : Str} {st : Stmt} {f : Addr} {fd : FuncData} {dw : List D → W D}
/-- what a body is asked to show -/
def BodyOk (M : Md) (k n : Nat) (N : List Str) (st : Stmt) (dw : List D → W D) : Prop :=
  ∀ X : Cx, Ct X k M N (defScope st) fnT → ∀ (G : Gh) (ds : List D), G.bx = none → ds.length = n → ∀ Φ, dw ds Φ →
    ∃ (R : Type) (eR : R → D) (w : W (Fl R Empty Empty)), DS X G (slots N ds) (defBody st) eR eE eE w ∧ bnd w fend (fun r => Φ (eR r))
theorem fn_ok (F : Fun M.K x qual st f fd) (S : FnScope N ps (defScope st)) (hn : ps.length = n) (hb : BodyOk M k n N st dw) : FnOk M.P M.w M.K M.mg M.base CX0 (k + 1) f fd ps (SpW M.K n dw) := by
  have hnN : n ≤ N.length := by
    have := congrArg List.length S.pre
    rw [List.length_take] at this
    omega
  refine F.ok S (fun vs H Q E h => ?_) fun cdv A outer s H vs Q E hr h => ?_
  · obtain ⟨F, ds, _, rs, hl, _⟩ := h
    rw [rs.len, hl, hn]
  · obtain ⟨F0, ds, sub, rs, hl, q⟩ := h
    generalize hX : (cxOf CX0 M.P M.w M.K M.mg M.base N qual (defScope st) f cdv A outer s H E).nox = X
    have hmd : md X = M := by subst hX; rfl
    have hK : X.K = M.K := by subst hX; rfl
    have g : Gd X k := by
      subst hX
      exact ⟨rfl, S.nd, hr, rfl⟩
    have sc : Sc X N (defScope st) := by
      subst hX
      exact ⟨rfl, rfl⟩
    have hfn : X.fn = fnT := by subst hX; rfl
    obtain ⟨R, eR, w, d, q⟩ := hb X ⟨g, sc, hmd, hfn⟩ ⟨H, F0, none, 0⟩ ds rfl hl _ q
    refine ⟨bSs X (defBody st), pss_b, ?_⟩
    have hs := start_sl (K := M.K) (G := ⟨H, F0, none, 0⟩) (F := F0) (H := H) (N := N) rs (by rw [hl]; exact hnN)
    have st0 : Sta X.K ⟨H, F0, none, 0⟩ (slots N ds) (start N vs) F0 H := by
      rw [hK]
      exact ⟨hs.2, hs.1, fun i j d e a n e1 _ _ _ => start_ne i e1, sub, fun a o e _ => e, fun a o e => .inl e, Sub.refl _, fun c e => nomatch e⟩
    refine d.run (start N vs) F0 H _ st0 (d.mono _ _ (fun o q => ?_) q)
    cases o with
    | nx s => exact nomatch s
    | bk s => exact nomatch s
    | ct s => exact nomatch s
    | rt r =>
      intro v F' H' fn e' rp
      refine q v F' H' e' (fun a o e => fn.ent a o e (fun z => nomatch z)) fn.sub (fun a o e => fn.new a o e) (by rw [← hK]; exact rp)
theorem FnAt.mk' (F : Fun M.K x qual st f fd) (S : FnScope N ps (defScope st)) (hn : ps.length = n) (hb : BodyOk M k n N st dw) (mono : ∀ ds, Mono (dw ds)) (hm : M.mg x = some (.ref f)) (hbd : Binds M.K fd ps []) : FnAt M (k + 1) x n dw :=
  ⟨mono, f, fd, ps, hn, fn_ok F S hn hb, hm, F.kp, hbd⟩
/-! with the box as the first parameter -/
def BodyBx (M : Md) (k n : Nat) (N : List Str) (st : Stmt) (dw : List D → W D) : Prop :=
  ∀ X : Cx, Ct X k M N (defScope st) fnT → ∀ (G : Gh) (ds : List D), ds.length = n → ∀ Φ, dw ds Φ →
    ∃ (R : Type) (eR : R → D) (w : W (Fl R Empty Empty)), DS X G (.ob :: slots N.tail ds) (defBody st) eR eE eE w ∧ bnd w fend (fun r => Φ (eR r))
theorem start_cons {N : List Str} {v : V} {vs : List V} : start N (v :: vs) = some v :: start N.tail vs := by
  cases N with
  | nil => simp [L2.start]
  | cons a r => simp [L2.start]
theorem fn_okB (F : Fun M.K x qual st f fd) (S : FnScope N ps (defScope st)) (hn : ps.length = n + 1) (hb : BodyBx M k n N st dw) : FnOk M.P M.w M.K M.mg M.base CX0 (k + 1) f fd ps (SpB M.K n dw) := by
  have hnN : n + 1 ≤ N.length := by
    have := congrArg List.length S.pre
    rw [List.length_take] at this
    omega
  refine F.ok S (fun vs H Q E h => ?_) fun cdv A outer s H vs Q E hr h => ?_
  · obtain ⟨c, p, us, F, ds, rfl, _, _, _, rs, hl, _⟩ := h
    rw [List.length_cons, rs.len, hl, hn]
  · obtain ⟨c, p, us, F0, ds, rfl, hbox, hFc, sub, rs, hl, q⟩ := h
    generalize hX : (cxOf CX0 M.P M.w M.K M.mg M.base N qual (defScope st) f cdv A outer s H E).nox = X
    have hmd : md X = M := by subst hX; rfl
    have hK : X.K = M.K := by subst hX; rfl
    have g : Gd X k := by
      subst hX
      exact ⟨rfl, S.nd, hr, rfl⟩
    have sc : Sc X N (defScope st) := by
      subst hX
      exact ⟨rfl, rfl⟩
    have hfn : X.fn = fnT := by subst hX; rfl
    obtain ⟨R, eR, w, d, q⟩ := hb X ⟨g, sc, hmd, hfn⟩ ⟨H, F0, some c, p⟩ ds hl _ q
    refine ⟨bSs X (defBody st), pss_b, ?_⟩
    have hs := start_sl (K := M.K) (G := ⟨H, F0, some c, p⟩) (F := F0) (H := H) (N := N.tail) rs (by rw [hl, List.length_tail]; omega)
    have st0 : Sta X.K ⟨H, F0, some c, p⟩ (.ob :: slots N.tail ds) (start N (.ref c :: us)) F0 H := by
      rw [hK, start_cons]
      refine ⟨by rw [List.length_cons, List.length_cons, hs.2], fun i s e => ?_, fun i j d e a n e1 _ _ _ => ?_, sub, fun a o e _ => e, fun a o e => .inl e, Sub.refl _, fun c' e => ?_⟩
      · cases i with
        | zero => cases e; exact ⟨_, rfl, c, rfl, rfl⟩
        | succ i => exact hs.1 i s (by simpa using e)
      · cases i with
        | zero => cases e1
        | succ i => exact start_ne i (by simpa using e1)
      · cases e
        exact ⟨hbox, hFc⟩
    refine d.run _ F0 H _ st0 (d.mono _ _ (fun o q => ?_) q)
    cases o with
    | nx s => exact nomatch s
    | bk s => exact nomatch s
    | ct s => exact nomatch s
    | rt r =>
      intro v F' H' fn e' rp
      refine q v F' H' e' (fun a o e n => fn.ent a o e (fun z => n (Option.some.inj z).symm)) fn.sub (fun a o e => fn.new a o e) (by rw [← hK]; exact (fn.box c rfl).1) (by rw [← hK]; exact rp)
theorem FnBx.mk' (F : Fun M.K x qual st f fd) (S : FnScope N ps (defScope st)) (hn : ps.length = n + 1) (hb : BodyBx M k n N st dw) (mono : ∀ ds, Mono (dw ds)) (hm : M.mg x = some (.ref f)) (hbd : Binds M.K fd ps []) : FnBx M (k + 1) x n dw :=
  ⟨mono, f, fd, ps, hn, fn_okB F S hn hb, hm, F.kp, hbd⟩
section
variable {α β γ δ ε : Type} {ea : α → D} {eb : β → D} {ec : γ → D} {ed : δ → D} {er : ε → D}
theorem FnAt.mk1 {fb : α → W (Fl ε Empty Empty)} (F : Fun M.K x qual st f fd) (S : FnScope N ps (defScope st)) (hn : ps.length = 1) (hm : M.mg x = some (.ref f)) (hbd : Binds M.K fd ps [])
    (hb : ∀ X, Ct X k M N (defScope st) fnT → ∀ G : Gh, G.bx = none → ∀ a, DS X G (slots N [ea a]) (defBody st) er eE eE (fb a)) : FnAt M (k + 1) x 1 (d1 ea er fun a => bnd (fb a) fend) :=
  .mk' F S hn (fun X c G ds hG hl Φ ⟨a, e, P, q, i⟩ => by
    subst e
    exact ⟨_, er, fb a, hb X c G hG a, mono_bnd (hb X c G hG a).mono mono_fend _ _ (fun r p => i r p) q⟩) (mono_d1 (f := fun a => bnd (fb a) fend)) hm hbd
theorem FnAt.mk2 {fb : α → β → W (Fl ε Empty Empty)} (F : Fun M.K x qual st f fd) (S : FnScope N ps (defScope st)) (hn : ps.length = 2) (hm : M.mg x = some (.ref f)) (hbd : Binds M.K fd ps [])
    (hb : ∀ X, Ct X k M N (defScope st) fnT → ∀ G : Gh, G.bx = none → ∀ a b, DS X G (slots N [ea a, eb b]) (defBody st) er eE eE (fb a b)) : FnAt M (k + 1) x 2 (d2 ea eb er fun a b => bnd (fb a b) fend) :=
  .mk' F S hn (fun X c G ds hG hl Φ ⟨a, b, e, P, q, i⟩ => by
    subst e
    exact ⟨_, er, fb a b, hb X c G hG a b, mono_bnd (hb X c G hG a b).mono mono_fend _ _ (fun r p => i r p) q⟩) (mono_d2 (f := fun a b => bnd (fb a b) fend)) hm hbd
theorem FnAt.mk3 {fb : α → β → γ → W (Fl ε Empty Empty)} (F : Fun M.K x qual st f fd) (S : FnScope N ps (defScope st)) (hn : ps.length = 3) (hm : M.mg x = some (.ref f)) (hbd : Binds M.K fd ps [])
    (hb : ∀ X, Ct X k M N (defScope st) fnT → ∀ G : Gh, G.bx = none → ∀ a b c, DS X G (slots N [ea a, eb b, ec c]) (defBody st) er eE eE (fb a b c)) : FnAt M (k + 1) x 3 (d3 ea eb ec er fun a b c => bnd (fb a b c) fend) :=
  .mk' F S hn (fun X c' G ds hG hl Φ ⟨a, b, c, e, P, q, i⟩ => by
    subst e
    exact ⟨_, er, fb a b c, hb X c' G hG a b c, mono_bnd (hb X c' G hG a b c).mono mono_fend _ _ (fun r p => i r p) q⟩) (mono_d3 (f := fun a b c => bnd (fb a b c) fend)) hm hbd
theorem FnAt.mk4 {fb : α → β → γ → δ → W (Fl ε Empty Empty)} (F : Fun M.K x qual st f fd) (S : FnScope N ps (defScope st)) (hn : ps.length = 4) (hm : M.mg x = some (.ref f)) (hbd : Binds M.K fd ps [])
    (hb : ∀ X, Ct X k M N (defScope st) fnT → ∀ G : Gh, G.bx = none → ∀ a b c d, DS X G (slots N [ea a, eb b, ec c, ed d]) (defBody st) er eE eE (fb a b c d)) : FnAt M (k + 1) x 4 (d4 ea eb ec ed er fun a b c d => bnd (fb a b c d) fend) :=
  .mk' F S hn (fun X c' G ds hG hl Φ ⟨a, b, c, d, e, P, q, i⟩ => by
    subst e
    exact ⟨_, er, fb a b c d, hb X c' G hG a b c d, mono_bnd (hb X c' G hG a b c d).mono mono_fend _ _ (fun r p => i r p) q⟩) (mono_d4 (f := fun a b c d => bnd (fb a b c d) fend)) hm hbd
theorem FnBx.mk0 {fb : W (Fl ε Empty Empty)} (F : Fun M.K x qual st f fd) (S : FnScope N ps (defScope st)) (hn : ps.length = 1) (hm : M.mg x = some (.ref f)) (hbd : Binds M.K fd ps [])
    (hb : ∀ X, Ct X k M N (defScope st) fnT → ∀ G : Gh, DS X G (.ob :: slots N.tail []) (defBody st) er eE eE fb) : FnBx M (k + 1) x 0 (d0 er (bnd fb fend)) :=
  .mk' F S hn (fun X c G ds hl Φ ⟨e, P, q, i⟩ => by
    subst e
    exact ⟨_, er, fb, hb X c G, mono_bnd (hb X c G).mono mono_fend _ _ (fun r p => i r p) q⟩) (mono_d0 (f := bnd fb fend)) hm hbd
theorem FnBx.mk1 {fb : α → W (Fl ε Empty Empty)} (F : Fun M.K x qual st f fd) (S : FnScope N ps (defScope st)) (hn : ps.length = 2) (hm : M.mg x = some (.ref f)) (hbd : Binds M.K fd ps [])
    (hb : ∀ X, Ct X k M N (defScope st) fnT → ∀ G : Gh, ∀ a, DS X G (.ob :: slots N.tail [ea a]) (defBody st) er eE eE (fb a)) : FnBx M (k + 1) x 1 (d1 ea er fun a => bnd (fb a) fend) :=
  .mk' F S hn (fun X c G ds hl Φ ⟨a, e, P, q, i⟩ => by
    subst e
    exact ⟨_, er, fb a, hb X c G a, mono_bnd (hb X c G a).mono mono_fend _ _ (fun r p => i r p) q⟩) (mono_d1 (f := fun a => bnd (fb a) fend)) hm hbd
theorem FnBx.mk2 {fb : α → β → W (Fl ε Empty Empty)} (F : Fun M.K x qual st f fd) (S : FnScope N ps (defScope st)) (hn : ps.length = 3) (hm : M.mg x = some (.ref f)) (hbd : Binds M.K fd ps [])
    (hb : ∀ X, Ct X k M N (defScope st) fnT → ∀ G : Gh, ∀ a b, DS X G (.ob :: slots N.tail [ea a, eb b]) (defBody st) er eE eE (fb a b)) : FnBx M (k + 1) x 2 (d2 ea eb er fun a b => bnd (fb a b) fend) :=
  .mk' F S hn (fun X c G ds hl Φ ⟨a, b, e, P, q, i⟩ => by
    subst e
    exact ⟨_, er, fb a b, hb X c G a b, mono_bnd (hb X c G a b).mono mono_fend _ _ (fun r p => i r p) q⟩) (mono_d2 (f := fun a b => bnd (fb a b) fend)) hm hbd
/-- a weaker promise -/
theorem FnAt.imp {dw' : List D → W D} (F : FnAt M k x n dw) (m : ∀ ds, Mono (dw' ds)) (h : ∀ ds Φ, dw' ds Φ → dw ds Φ) : FnAt M k x n dw' := by
  obtain ⟨f, fd, ps, hn, hf, hm, hk, hb⟩ := F.ex
  exact ⟨m, f, fd, ps, hn, hf.imp fun vs H Q E ⟨F, ds, a, b, c, q⟩ => ⟨F, ds, a, b, c, h _ _ q⟩, hm, hk, hb⟩
theorem FnBx.imp {dw' : List D → W D} (F : FnBx M k x n dw) (m : ∀ ds, Mono (dw' ds)) (h : ∀ ds Φ, dw' ds Φ → dw ds Φ) : FnBx M k x n dw' := by
  obtain ⟨f, fd, ps, hn, hf, hm, hk, hb⟩ := F.ex
  exact ⟨m, f, fd, ps, hn, hf.imp fun vs H Q E ⟨c, p, us, F, ds, a, b, c1, d, e, g, q⟩ => ⟨c, p, us, F, ds, a, b, c1, d, e, g, h _ _ q⟩, hm, hk, hb⟩
end
end
end Dt
/-! Dt7: operations on data. -/
namespace Dt
open PySem PySem.Spec PyProof.Rows L2

/-! ### data as the library's data -/
mutual
def toPy : D → PyData
  | .non => .none
  | .bl b => .bool b
  | .int i => .int i
  | .str s => .str s
  | .lst ds => .list (toPys ds)
  | .tup ds => .tuple (toPys ds)
  | .dk _ => .dict []
  | .dt _ => .dict []
  | .scr _ => .dict []
  | .kt _ => .dict []
def toPys : List D → List PyData
  | [] => []
  | d :: ds => toPy d :: toPys ds
end
theorem toPys_map : ∀ ds : List D, toPys ds = ds.map toPy
  | [] => rfl
  | d :: ds => congrArg (toPy d :: ·) (toPys_map ds)
section
variable {K : PySem.W.Frag} {F H : Hp}
mutual
theorem Rep.dp (s : Sub F H) : ∀ {v : V} {d : D}, Rep K F v d → (toPy d).plain = true → Dp K H v (toPy d)
  | _, _, .non, _ => .non
  | _, _, .bl b, _ => .bl b
  | _, _, .int i, _ => .int i
  | _, _, .str x _, _ => .str x
  | _, _, .lst h r _, p => .lst (SqL.of (s _ _ h)) (Reps.dp s r p)
  | _, _, .tup h r _, p => .tup (SqT.of (s _ _ h)) (Reps.dp s r p)
  | _, _, .scr _ _, p => nomatch p
  | _, _, .kt _ _ _, p => nomatch p
  | _, _, .dk _ _ _, p => nomatch p
  | _, _, .dt _ _ _, p => nomatch p
theorem Reps.dp (s : Sub F H) : ∀ {vs : List V} {ds : List D}, Reps K F vs ds → PyData.plainAll (toPys ds) = true → DpAll K H vs (toPys ds)
  | _, _, .nil, _ => .nil
  | _, _, .cons h r, p => by
    have p' := Bool.and_eq_true_iff.mp p
    exact .cons (Rep.dp s h p'.1) (Reps.dp s r p'.2)
end
theorem RepB.dp {G : Gh} {v : V} {d : D} (s : Sub F H) (r : RepB K G F H v d) (p : (toPy d).plain = true) : Dp K H v (toPy d) := by
  rcases r with r | ⟨a, rfl, o, _⟩
  · exact r.dp s p
  · cases d with
    | lst ds =>
      obtain ⟨vs, h, rs, _⟩ := o
      exact .lst (SqL.of h) (rs.dp s p)
    | dk _ => exact nomatch p
    | dt _ => exact nomatch p
    | _ => exact o.elim
end

/-- texts by their codes -/
abbrev Tx := List Nat
def eS (l : Tx) : D := .str ⟨l.toArray⟩
/-- a kind of data without dicts, of some depth -/
class EncP {α : Type} (enc : α → D) (n : outParam Nat) : Prop where
  pl : ∀ x, (toPy (enc x)).plain = true
  dep : ∀ x, (toPy (enc x)).depth ≤ n
section
variable {α β γ δ : Type} {ea : α → D} {eb : β → D} {ec : γ → D} {ed : δ → D} {n m l o : Nat}
instance : EncP D.int 0 := ⟨fun _ => rfl, fun _ => Nat.le_refl _⟩
instance : EncP D.bl 0 := ⟨fun _ => rfl, fun _ => Nat.le_refl _⟩
instance : EncP eS 0 := ⟨fun _ => rfl, fun _ => Nat.le_refl _⟩
instance : EncP eU 0 := ⟨fun _ => rfl, fun _ => Nat.le_refl _⟩
theorem plainAll_of [h : EncP ea n] : ∀ xs : List α, PyData.plainAll (toPys (xs.map ea)) = true
  | [] => rfl
  | x :: xs => Bool.and_eq_true_iff.mpr ⟨h.pl x, plainAll_of xs⟩
theorem depthAll_of [h : EncP ea n] : ∀ xs : List α, PyData.depthAll (toPys (xs.map ea)) ≤ n
  | [] => Nat.zero_le _
  | x :: xs => Nat.max_le.mpr ⟨h.dep x, depthAll_of xs⟩
instance [h : EncP ea n] : EncP (eL ea) (n + 1) := ⟨fun xs => plainAll_of (ea := ea) xs, fun xs => Nat.succ_le_succ (depthAll_of (ea := ea) xs)⟩
instance [h : EncP ea n] : EncP (eT ea) (n + 1) := ⟨fun xs => plainAll_of (ea := ea) xs, fun xs => Nat.succ_le_succ (depthAll_of (ea := ea) xs)⟩
instance [h : EncP ea n] : EncP (eO ea) n := ⟨fun x => by
    cases x with
    | none => rfl
    | some y => exact h.pl y, fun x => by
    cases x with
    | none => exact Nat.zero_le _
    | some y => exact h.dep y⟩
instance [h : EncP ea n] [h' : EncP eb m] : EncP (e2 ea eb) (max n m + 1) := ⟨fun p => by
    show (PyData.plain (toPy (ea p.1)) && (PyData.plain (toPy (eb p.2)) && true)) = true
    rw [h.pl, h'.pl]; rfl, fun p => by
    show max (toPy (ea p.1)).depth (max (toPy (eb p.2)).depth 0) + 1 ≤ _
    have := h.dep p.1
    have := h'.dep p.2
    omega⟩
instance [h : EncP ea n] [h' : EncP eb m] [h2 : EncP ec l] : EncP (e3 ea eb ec) (max n (max m l) + 1) := ⟨fun p => by
    show (PyData.plain (toPy (ea p.1)) && (PyData.plain (toPy (eb p.2.1)) && (PyData.plain (toPy (ec p.2.2)) && true))) = true
    rw [h.pl, h'.pl, h2.pl]; rfl, fun p => by
    show max (toPy (ea p.1)).depth (max (toPy (eb p.2.1)).depth (max (toPy (ec p.2.2)).depth 0)) + 1 ≤ _
    have := h.dep p.1
    have := h'.dep p.2.1
    have := h2.dep p.2.2
    omega⟩
/-- == is equality -/
class EncEq {α : Type} [DecidableEq α] (enc : α → D) : Prop where
  eq : ∀ x y, PyData.eqv (toPy (enc x)) (toPy (enc y)) = decide (x = y)
instance : EncEq D.int := ⟨fun x y => by show (x == y) = _; rw [Bool.beq_eq_decide_eq]⟩
instance : EncEq D.bl := ⟨fun x y => by show (x == y) = _; rw [Bool.beq_eq_decide_eq]⟩
instance : EncEq eU := ⟨fun x y => rfl⟩
instance : EncEq eS := ⟨fun x y => by
  show ((⟨x.toArray⟩ : Str) == ⟨y.toArray⟩) = _
  rw [Bool.beq_eq_decide_eq]
  simp⟩
theorem eqvAll_of [DecidableEq α] [h : EncEq ea] : ∀ xs ys : List α, PyData.eqvAll (toPys (xs.map ea)) (toPys (ys.map ea)) = decide (xs = ys)
  | [], [] => rfl
  | [], _ :: _ => rfl
  | _ :: _, [] => rfl
  | x :: xs, y :: ys => by
    show PyData.eqvAll (toPy (ea x) :: toPys (xs.map ea)) (toPy (ea y) :: toPys (ys.map ea)) = _
    rw [PyData.eqvAll, h.eq, eqvAll_of xs ys]
    by_cases e : x = y
    · by_cases e' : xs = ys <;> simp [e, e']
    · simp [e]
instance [DecidableEq α] [h : EncEq ea] : EncEq (eL ea) := ⟨fun xs ys => eqvAll_of xs ys⟩
instance [DecidableEq α] [h : EncEq ea] : EncEq (eT ea) := ⟨fun xs ys => eqvAll_of xs ys⟩
instance [DecidableEq α] [DecidableEq β] [h : EncEq ea] [h' : EncEq eb] : EncEq (e2 ea eb) := ⟨fun p q => by
  show PyData.eqvAll [toPy (ea p.1), toPy (eb p.2)] [toPy (ea q.1), toPy (eb q.2)] = _
  rw [PyData.eqvAll, PyData.eqvAll, PyData.eqvAll, h.eq, h'.eq]
  obtain ⟨a, b⟩ := p
  obtain ⟨c, d⟩ := q
  by_cases e1 : a = c <;> by_cases e2 : b = d <;> simp [e1, e2]⟩
instance [DecidableEq α] [DecidableEq β] [DecidableEq γ] [h : EncEq ea] [h' : EncEq eb] [h2 : EncEq ec] : EncEq (e3 ea eb ec) := ⟨fun p q => by
  show PyData.eqvAll [toPy (ea p.1), toPy (eb p.2.1), toPy (ec p.2.2)] [toPy (ea q.1), toPy (eb q.2.1), toPy (ec q.2.2)] = _
  rw [PyData.eqvAll, PyData.eqvAll, PyData.eqvAll, PyData.eqvAll, h.eq, h'.eq, h2.eq]
  obtain ⟨a, b, x⟩ := p
  obtain ⟨c, d, y⟩ := q
  by_cases e1 : a = c <;> by_cases e2 : b = d <;> by_cases e3 : x = y <;> simp [e1, e2, e3]⟩
/-- never None -/
class NonN {α : Type} (enc : α → D) : Prop where
  nn : ∀ x, enc x ≠ .non
instance : NonN D.int := ⟨fun _ e => nomatch e⟩
instance : NonN D.bl := ⟨fun _ e => nomatch e⟩
instance : NonN eS := ⟨fun _ e => nomatch e⟩
instance : NonN (eL ea) := ⟨fun _ e => nomatch e⟩
instance : NonN (eT ea) := ⟨fun _ e => nomatch e⟩
instance : NonN (e2 ea eb) := ⟨fun _ e => nomatch e⟩
instance : NonN (e3 ea eb ec) := ⟨fun _ e => nomatch e⟩
theorem eqv_non {d : D} (h : d ≠ .non) : PyData.eqv (toPy d) .none = false ∧ PyData.eqv .none (toPy d) = false := by
  cases d with
  | non => exact absurd rfl h
  | _ => exact ⟨rfl, rfl⟩
instance [DecidableEq α] [h : EncEq ea] [n : NonN ea] : EncEq (eO ea) := ⟨fun x y => by
  cases x with
  | none =>
    cases y with
    | none => rfl
    | some y => exact (eqv_non (n.nn y)).2
  | some x =>
    cases y with
    | none => exact (eqv_non (n.nn x)).1
    | some y =>
      show PyData.eqv (toPy (ea x)) (toPy (ea y)) = _
      rw [h.eq]
      by_cases e : x = y <;> simp [e]⟩
end

/-! ### == and in -/
section
variable {X : Cx}
def rEqP (K : PySem.W.Frag) (G : Gh) : R2 := fun x y H Q => ∃ F d e, Sub F H ∧ RepB K G F H x d ∧ RepB K G F H y e ∧ (toPy d).plain = true ∧ (toPy e).plain = true ∧ (toPy d).depth ≤ 60 ∧ Q (.bl (PyData.eqv (toPy d) (toPy e))) H
def rNeP (K : PySem.W.Frag) (G : Gh) : R2 := fun x y H Q => ∃ F d e, Sub F H ∧ RepB K G F H x d ∧ RepB K G F H y e ∧ (toPy d).plain = true ∧ (toPy e).plain = true ∧ (toPy d).depth ≤ 60 ∧ Q (.bl (!PyData.eqv (toPy d) (toPy e))) H
theorem op_eqP {G : Gh} {k : Nat} (g : Gd X k) : OpR X (compareOp .Eq) (rEqP X.K G) := by
  intro pins s σ H x y v u Q I rx ry h
  obtain ⟨F, d, e, sb, r1, r2, p1, p2, hd, q⟩ := h
  obtain ⟨as, a1⟩ := Dp.reads I _ x v (r1.dp sb p1) rx
  obtain ⟨bs, a2⟩ := Dp.reads I _ y u (r2.dp sb p2) ry
  have hu := g.room.units
  exact PySem.SeqAt.eq_plain a1 a2 p1 p2 (by omega) ⟨.bl _, H, I, rfl, q⟩
theorem op_neP {G : Gh} {k : Nat} (g : Gd X k) : OpR X (compareOp .NotEq) (rNeP X.K G) := by
  intro pins s σ H x y v u Q I rx ry h
  obtain ⟨F, d, e, sb, r1, r2, p1, p2, hd, q⟩ := h
  obtain ⟨as, a1⟩ := Dp.reads I _ x v (r1.dp sb p1) rx
  obtain ⟨bs, a2⟩ := Dp.reads I _ y u (r2.dp sb p2) ry
  have hu := g.room.units
  exact PySem.SeqAt.ne_plain a1 a2 p1 p2 (by omega) ⟨.bl _, H, I, rfl, q⟩
/-- x in c, a list or a tuple of data -/
def rInP (K : PySem.W.Frag) (G : Gh) (neg : Bool) : R2 := fun x y H Q => ∃ F d e es, Sub F H ∧ RepB K G F H x d ∧ RepB K G F H y e ∧ (e = .lst es ∨ e = .tup es) ∧ (toPy d).plain = true ∧ PyData.plainAll (toPys es) = true ∧ (toPy d).depth ≤ 60 ∧
  Q (.bl (if neg then !(toPys es).any fun z => PyData.eqv z (toPy d) else (toPys es).any fun z => PyData.eqv z (toPy d))) H
theorem op_inP {G : Gh} {k : Nat} (g : Gd X k) : OpR X (compareOp .In) (rInP X.K G false) := by
  intro pins s σ H x y v u Q I rx ry h
  obtain ⟨F, d, e, es, sb, r1, r2, he, p1, p2, hd, q⟩ := h
  obtain ⟨as, a1⟩ := Dp.reads I _ x v (r1.dp sb p1) rx
  have hu := g.room.units
  rcases he with rfl | rfl
  · obtain ⟨bs, a2⟩ := Dp.reads I _ y u (r2.dp sb p2) ry
    exact PySem.SeqAt.in_list_data a2 a1 p2 p1 (by omega) ⟨.bl _, H, I, rfl, q⟩
  · obtain ⟨bs, a2⟩ := Dp.reads I _ y u (r2.dp sb p2) ry
    exact PySem.SeqAt.in_tuple_data a2 a1 p2 p1 (by omega) ⟨.bl _, H, I, rfl, q⟩
theorem op_notInP {G : Gh} {k : Nat} (g : Gd X k) : OpR X (compareOp .NotIn) (rInP X.K G true) := by
  intro pins s σ H x y v u Q I rx ry h
  obtain ⟨F, d, e, es, sb, r1, r2, he, p1, p2, hd, q⟩ := h
  obtain ⟨as, a1⟩ := Dp.reads I _ x v (r1.dp sb p1) rx
  have hu := g.room.units
  rcases he with rfl | rfl
  · obtain ⟨bs, a2⟩ := Dp.reads I _ y u (r2.dp sb p2) ry
    exact PySem.SeqAt.notIn_list_data a2 a1 p2 p1 (by omega) ⟨.bl _, H, I, rfl, q⟩
  · obtain ⟨bs, a2⟩ := Dp.reads I _ y u (r2.dp sb p2) ry
    exact PySem.SeqAt.notIn_tuple_data a2 a1 p2 p1 (by omega) ⟨.bl _, H, I, rfl, q⟩
end
section
variable {X : Cx} {G : Gh} {ρ : List Sl} {α β γ : Type} {a b c : Expr} {wa : W α} {wb : W β} {ea : α → D} {eb : β → D} {ec : γ → D} {k n m : Nat} {pos p : Pos}
theorem dc_eq [DecidableEq α] [hp : EncP ea n] [he : EncEq ea] {wb : W α} (g : Gd X k) (ha : DB X G ρ a wa ea) (hb : DB X G ρ b wb ea) (hn : n ≤ 60 := by decide) : DC X G ρ .Eq a b (bnd wa fun x => bnd wb fun y => ret (decide (x = y))) D.bl :=
  de_op2 (op2_cmp (op_eqP g)) ha hb (fun _ _ => mono_ret _) fun F H v u x y Q s rv ru q => ⟨F, _, _, s, rv, ru, hp.pl x, hp.pl y, Nat.le_trans (hp.dep x) hn, q _ (by rw [he.eq]; exact .bl _)⟩
theorem dc_ne [DecidableEq α] [hp : EncP ea n] [he : EncEq ea] {wb : W α} (g : Gd X k) (ha : DB X G ρ a wa ea) (hb : DB X G ρ b wb ea) (hn : n ≤ 60 := by decide) : DC X G ρ .NotEq a b (bnd wa fun x => bnd wb fun y => ret (!decide (x = y))) D.bl :=
  de_op2 (op2_cmp (op_neP g)) ha hb (fun _ _ => mono_ret _) fun F H v u x y Q s rv ru q => ⟨F, _, _, s, rv, ru, hp.pl x, hp.pl y, Nat.le_trans (hp.dep x) hn, q _ (by rw [he.eq]; exact .bl _)⟩
theorem any_eqv [DecidableEq α] [he : EncEq ea] (x : α) : ∀ ys : List α, ((toPys (ys.map ea)).any fun z => PyData.eqv z (toPy (ea x))) = decide (x ∈ ys)
  | [] => rfl
  | y :: ys => by
    show (PyData.eqv (toPy (ea y)) (toPy (ea x)) || (toPys (ys.map ea)).any fun z => PyData.eqv z (toPy (ea x))) = _
    rw [he.eq, any_eqv x ys]
    by_cases e : x = y
    · simp [e]
    · by_cases e' : x ∈ ys
      · simp [e']
      · have : ¬ y = x := fun z => e z.symm
        simp [e, e', this]
section
variable [DecidableEq α] [hp : EncP ea n] [he : EncEq ea] {wb : W (List α)}
theorem dc_inL (g : Gd X k) (ha : DB X G ρ a wa ea) (hb : DB X G ρ b wb (eL ea)) (hn : n ≤ 60 := by decide) : DC X G ρ .In a b (bnd wa fun x => bnd wb fun ys => ret (decide (x ∈ ys))) D.bl :=
  de_op2 (op2_cmp (op_inP g)) ha hb (fun _ _ => mono_ret _) fun F H v u x y Q s rv ru q => ⟨F, _, _, _, s, rv, ru, .inl rfl, hp.pl x, plainAll_of (ea := ea) y, Nat.le_trans (hp.dep x) hn, q _ (by rw [any_eqv]; exact .bl _)⟩
theorem dc_notInL (g : Gd X k) (ha : DB X G ρ a wa ea) (hb : DB X G ρ b wb (eL ea)) (hn : n ≤ 60 := by decide) : DC X G ρ .NotIn a b (bnd wa fun x => bnd wb fun ys => ret (!decide (x ∈ ys))) D.bl :=
  de_op2 (op2_cmp (op_notInP g)) ha hb (fun _ _ => mono_ret _) fun F H v u x y Q s rv ru q => ⟨F, _, _, _, s, rv, ru, .inl rfl, hp.pl x, plainAll_of (ea := ea) y, Nat.le_trans (hp.dep x) hn, q _ (by rw [any_eqv]; exact .bl _)⟩
theorem dc_inT (g : Gd X k) (ha : DB X G ρ a wa ea) (hb : DB X G ρ b wb (eT ea)) (hn : n ≤ 60 := by decide) : DC X G ρ .In a b (bnd wa fun x => bnd wb fun ys => ret (decide (x ∈ ys))) D.bl :=
  de_op2 (op2_cmp (op_inP g)) ha hb (fun _ _ => mono_ret _) fun F H v u x y Q s rv ru q => ⟨F, _, _, _, s, rv, ru, .inr rfl, hp.pl x, plainAll_of (ea := ea) y, Nat.le_trans (hp.dep x) hn, q _ (by rw [any_eqv]; exact .bl _)⟩
theorem dc_notInT (g : Gd X k) (ha : DB X G ρ a wa ea) (hb : DB X G ρ b wb (eT ea)) (hn : n ≤ 60 := by decide) : DC X G ρ .NotIn a b (bnd wa fun x => bnd wb fun ys => ret (!decide (x ∈ ys))) D.bl :=
  de_op2 (op2_cmp (op_notInP g)) ha hb (fun _ _ => mono_ret _) fun F H v u x y Q s rv ru q => ⟨F, _, _, _, s, rv, ru, .inr rfl, hp.pl x, plainAll_of (ea := ea) y, Nat.le_trans (hp.dep x) hn, q _ (by rw [any_eqv]; exact .bl _)⟩
end

/-! ### texts -/
theorem RepB.tx {K : PySem.W.Frag} {G : Gh} {F H : Hp} {v : V} {l : Tx} (r : RepB K G F H v (eS l)) : v = .str ⟨l.toArray⟩ ∧ l.length ≤ sizeLine := by
  obtain ⟨h, z⟩ := RepB.str r
  exact ⟨h, by simpa [Str.length] using z⟩
theorem rep_tx {K : PySem.W.Frag} {F : Hp} {l : Tx} (h : l.length ≤ sizeLine) : Rep K F (.str ⟨l.toArray⟩) (eS l) := .str _ (by simpa [Str.length] using h)
theorem de_tx {x : Str} {l : Tx} {j pos} (hx : x = ⟨l.toArray⟩ := by decide +kernel) (hz : l.length ≤ 1000 := by decide) : DE X G ρ (.Constant (.str x) j pos) (ret l) eS := by
  subst hx
  exact de_c pe_str fun _ => rep_tx (Nat.le_trans hz (by decide))
def wCat (s t : Tx) : W Tx := grd (s.length + t.length ≤ sizeLine) (ret (s ++ t))
theorem str_app (s t : Tx) : (⟨s.toArray⟩ : Str) ++ (⟨t.toArray⟩ : Str) = ⟨(s ++ t).toArray⟩ := by
  show (⟨s.toArray ++ t.toArray⟩ : Str) = _
  simp
theorem de_cat {wa wb : W Tx} (ha : DB X G ρ a wa eS) (hb : DB X G ρ b wb eS) : DE X G ρ (.BinOp a .Add b pos) (bnd wa fun x => bnd wb fun y => wCat x y) eS :=
  de_op2 (op2_bin op_add_str) ha hb (fun _ _ => mono_grd (mono_ret _)) fun F H v u x y Q s rv ru q => by
    obtain ⟨rfl, z1⟩ := rv.tx
    obtain ⟨rfl, z2⟩ := ru.tx
    exact ⟨_, _, rfl, rfl, by simpa [Str.length] using q.1, q.2 _ (by rw [str_app]; exact rep_tx (by rw [List.length_append]; exact q.1))⟩
/-- a sign of a text -/
def wInS (x z : Tx) : W Bool := fun Φ => ∃ c, x = [c] ∧ Φ (decide (c ∈ z))
theorem mono_wInS (x z : Tx) : Mono (wInS x z) := fun P Q i ⟨c, e, q⟩ => ⟨c, e, i _ q⟩
theorem dc_inS {wa wb : W Tx} (ha : DB X G ρ a wa eS) (hb : DB X G ρ b wb eS) : DC X G ρ .In a b (bnd wa fun x => bnd wb fun y => wInS x y) D.bl :=
  de_op2 (op2_cmp op_in_sign) ha hb mono_wInS fun F H v u x y Q s rv ru q => by
    obtain ⟨rfl, z1⟩ := rv.tx
    obtain ⟨rfl, z2⟩ := ru.tx
    obtain ⟨c, rfl, q⟩ := q
    exact ⟨c, _, rfl, rfl, q _ (.bl _)⟩
theorem dc_notInS {wa wb : W Tx} (ha : DB X G ρ a wa eS) (hb : DB X G ρ b wb eS) : DC X G ρ .NotIn a b (bnd wa fun x => bnd wb fun y => bnd (wInS x y) fun z => ret (!z)) D.bl :=
  de_op2 (op2_cmp op_notIn_sign) ha hb (fun x y => mono_bnd (mono_wInS x y) fun _ => mono_ret _) fun F H v u x y Q s rv ru q => by
    obtain ⟨rfl, z1⟩ := rv.tx
    obtain ⟨rfl, z2⟩ := ru.tx
    obtain ⟨c, rfl, q⟩ := q
    exact ⟨c, _, rfl, rfl, q _ (.bl _)⟩
theorem di_tx {tg iter : Expr} {wa : W Tx} (ha : DB X G ρ iter wa eS) : DI X G ρ tg iter (bnd wa fun s => ret (s.map fun c => [c])) eS :=
  ⟨mono_bnd ha.mono fun _ => mono_ret _, fun σ F H R st q => PI_.b (pi_str pe_b) (ha.run σ F H _ st (ha.mono _ _ (fun s q v F' H' st' l r => by
    obtain ⟨rfl, hz⟩ := r.tx
    refine ⟨_, rfl, q _ F' H' st' l ?_⟩
    have hl : (s.map fun c => [c]).length = (⟨s.toArray⟩ : Str).cps.size := by simp
    refine ⟨by rw [List.length_map]; exact hz, _, _, hl.symm ▸ walk_str (z := ⟨s.toArray⟩), fun _ _ _ _ => trivial, fun i F2 H2 v H3 x c sb y hx => ⟨F2, ?_, .inl ⟨rfl, y.1⟩⟩⟩
    obtain ⟨_, cc, hc, rfl⟩ := y
    have e : x = [cc] := by
      have hc : s[i]? = some cc := by simpa using hc
      rw [List.getElem?_map, hc] at hx
      exact (Option.some.inj hx).symm
    subst e
    exact rep_tx (by show 1 ≤ 2 ^ 24; decide)) q))⟩

/-! ### len, places, slices -/
theorem de_lenL {wa : W (List α)} (hm : X.mg "len" = none) (hg : Gl X "len") (ha : DB X G ρ a wa (eL ea)) (he : starEach [a] X.env = (false, eval a X.env) :: starEach [] X.env := by rfl) : DE X G ρ (.Call (.Name "len" p) [a] [] pos) (bnd wa fun x => ret (x.length : Int)) D.int :=
  de_op1 (op1_fn call_len_seq hg hm PySem.boot_len (by decide) (by decide) he) ha (fun _ => mono_ret _) fun F H v x Q s rv q => by
    obtain ⟨p, vs, rfl, h, r, z⟩ := RepB.lst s rv
    exact ⟨p, vs, rfl, .inl (SqL.of h), q _ (by rw [r.len, List.length_map]; exact .int _)⟩
theorem de_lenT {wa : W (List α)} (hm : X.mg "len" = none) (hg : Gl X "len") (ha : DB X G ρ a wa (eT ea)) (he : starEach [a] X.env = (false, eval a X.env) :: starEach [] X.env := by rfl) : DE X G ρ (.Call (.Name "len" p) [a] [] pos) (bnd wa fun x => ret (x.length : Int)) D.int :=
  de_op1 (op1_fn call_len_seq hg hm PySem.boot_len (by decide) (by decide) he) ha (fun _ => mono_ret _) fun F H v x Q s rv q => by
    obtain ⟨p, vs, rfl, h, r, z⟩ := RepB.tup s rv
    exact ⟨p, vs, rfl, .inr (SqT.of h), q _ (by rw [r.len, List.length_map]; exact .int _)⟩
theorem de_lenS {wa : W Tx} (hm : X.mg "len" = none) (hg : Gl X "len") (ha : DB X G ρ a wa eS) (he : starEach [a] X.env = (false, eval a X.env) :: starEach [] X.env := by rfl) : DE X G ρ (.Call (.Name "len" p) [a] [] pos) (bnd wa fun x => ret (x.length : Int)) D.int :=
  de_op1 (op1_fn call_len_str hg hm PySem.boot_len (by decide) (by decide) he) ha (fun _ => mono_ret _) fun F H v x Q s rv q => by
    obtain ⟨rfl, z⟩ := rv.tx
    exact ⟨_, rfl, by simpa [Str.length] using z, q _ (by
      have e : (((⟨x.toArray⟩ : Str).length : Nat) : Int) = (x.length : Int) := by simp [Str.length]
      rw [e]
      exact .int _)⟩
def wIx (xs : List α) (i : Int) : W α := lft (atI xs i)
theorem atI_rep {K : PySem.W.Frag} {F : Hp} {vs : List V} {xs : List α} {i : Int} {x : α} (rs : Reps K F vs (xs.map ea)) (h : atI xs i = some x) : ∃ v, atI vs i = some v ∧ Rep K F v (ea x) := by
  unfold atI at h ⊢
  have hl : vs.length = xs.length := by rw [rs.len, List.length_map]
  rw [hl]
  cases e : ixN xs.length i with
  | none => rw [e] at h; cases h
  | some j =>
    rw [e] at h
    have h : xs[j]? = some x := h
    obtain ⟨v, h1, h2⟩ := rs.get (i := j) (d := ea x) (by rw [List.getElem?_map, h]; rfl)
    exact ⟨v, h1, h2⟩
theorem de_ixL {wa : W (List α)} {wb : W Int} (ha : DB X G ρ a wa (eL ea)) (hb : DB X G ρ b wb D.int) (hs : PlainIx b := by exact fun _ _ => rfl) : DE X G ρ (.Subscript a b pos) (bnd wa fun xs => bnd wb fun i => wIx xs i) ea :=
  de_op2 (op2_ix ix_list hs) ha hb (fun _ _ => mono_lft _) fun F H v u x y Q s rv ru q => by
    obtain ⟨p, vs, rfl, h, r, z⟩ := rv.lst s
    obtain rfl := ru.int
    obtain ⟨e, he, q⟩ := q
    obtain ⟨v', h1, h2⟩ := atI_rep r he
    exact ⟨p, vs, y, v', rfl, rfl, SqL.of h, h1, q _ h2⟩
theorem de_ixT {wa : W (List α)} {wb : W Int} (ha : DB X G ρ a wa (eT ea)) (hb : DB X G ρ b wb D.int) (hs : PlainIx b := by exact fun _ _ => rfl) : DE X G ρ (.Subscript a b pos) (bnd wa fun xs => bnd wb fun i => wIx xs i) ea :=
  de_op2 (op2_ix ix_tup hs) ha hb (fun _ _ => mono_lft _) fun F H v u x y Q s rv ru q => by
    obtain ⟨p, vs, rfl, h, r, z⟩ := rv.tup s
    obtain rfl := ru.int
    obtain ⟨e, he, q⟩ := q
    obtain ⟨v', h1, h2⟩ := atI_rep r he
    exact ⟨p, vs, y, v', rfl, rfl, SqT.of h, h1, q _ h2⟩
theorem de_ixS {wa : W Tx} {wb : W Int} (ha : DB X G ρ a wa eS) (hb : DB X G ρ b wb D.int) (hs : PlainIx b := by exact fun _ _ => rfl) : DE X G ρ (.Subscript a b pos) (bnd wa fun xs => bnd wb fun i => bnd (wIx xs i) fun c => ret [c]) eS :=
  de_op2 (op2_ix ix_str hs) ha hb (fun _ _ => mono_bnd (mono_lft _) fun _ => mono_ret _) fun F H v u x y Q s rv ru q => by
    obtain ⟨rfl, z⟩ := rv.tx
    obtain rfl := ru.int
    obtain ⟨c, he, q⟩ := q
    exact ⟨_, y, c, rfl, rfl, by simpa [Str.length] using z, by simpa using he, q _ (rep_tx (by show 1 ≤ 2 ^ 24; decide))⟩
theorem op1_ixc {r : R2} {i : Int} {kk ppos} (hr : IxR X r) : Op1 X (bE X (.Subscript a (.Constant (.int i) kk ppos) pos)) a fun v H Q => r v (.int i) H Q := fun σ H Q h =>
  op2_ix hr (fun _ _ => rfl) σ H Q (bE_mono h fun v H1 q => PE_.b pe_int q)
/-- a written place of a tuple of a known form -/
theorem de_pj {f : α → γ} {i : Int} {kk ppos} (ha : DB X G ρ a wa ea) (hd : ∀ x, ∃ ds, ea x = .tup ds ∧ atI ds i = some (ec (f x))) : DE X G ρ (.Subscript a (.Constant (.int i) kk ppos) pos) (bnd wa fun x => ret (f x)) ec :=
  de_op1 (op1_ixc ix_tup) ha (fun _ => mono_ret _) fun F H v x Q s rv q => by
    obtain ⟨ds, h1, h2⟩ := hd x
    rw [h1] at rv
    obtain ⟨p, vs, rfl, h, r, z⟩ := rv.tup s
    obtain ⟨v', h3, h4⟩ := atI_rep (ea := fun d : D => d) (xs := ds) (by simpa using r) h2
    exact ⟨p, vs, i, v', rfl, rfl, SqT.of h, h3, q _ h4⟩
theorem de_fst {wa : W (α × β)} {kk ppos} (ha : DB X G ρ a wa (e2 ea eb)) : DE X G ρ (.Subscript a (.Constant (.int 0) kk ppos) pos) (bnd wa fun x => ret x.1) ea := de_pj ha fun x => ⟨_, rfl, rfl⟩
theorem de_snd {wa : W (α × β)} {kk ppos} (ha : DB X G ρ a wa (e2 ea eb)) : DE X G ρ (.Subscript a (.Constant (.int 1) kk ppos) pos) (bnd wa fun x => ret x.2) eb := de_pj ha fun x => ⟨_, rfl, rfl⟩
theorem de_fst3 {wa : W (α × β × γ)} {kk ppos} (ha : DB X G ρ a wa (e3 ea eb ec)) : DE X G ρ (.Subscript a (.Constant (.int 0) kk ppos) pos) (bnd wa fun x => ret x.1) ea := de_pj ha fun x => ⟨_, rfl, rfl⟩
theorem de_snd3 {wa : W (α × β × γ)} {kk ppos} (ha : DB X G ρ a wa (e3 ea eb ec)) : DE X G ρ (.Subscript a (.Constant (.int 1) kk ppos) pos) (bnd wa fun x => ret x.2.1) eb := de_pj ha fun x => ⟨_, rfl, rfl⟩
theorem de_thd3 {wa : W (α × β × γ)} {kk ppos} (ha : DB X G ρ a wa (e3 ea eb ec)) : DE X G ρ (.Subscript a (.Constant (.int 2) kk ppos) pos) (bnd wa fun x => ret x.2.2) ec := de_pj ha fun x => ⟨_, rfl, rfl⟩
end
end Dt
/-! Dt8: more operations; owned lists changed. -/
namespace Dt
open PySem PySem.Spec PyProof.Rows L2
section
variable {X : Cx} {G : Gh} {ρ : List Sl} {α β γ : Type} {a b c e : Expr} {wa : W α} {wb : W β} {ea : α → D} {eb : β → D} {ec : γ → D} {k n m : Nat} {pos p : Pos}
/-! ### the script -/
theorem de_lenScr {wa : W (List Int)} (hm : X.mg "len" = none) (hg : Gl X "len") (ha : DB X G ρ a wa D.scr) (he : starEach [a] X.env = (false, eval a X.env) :: starEach [] X.env := by rfl) : DE X G ρ (.Call (.Name "len" p) [a] [] pos) (bnd wa fun x => ret (x.length : Int)) D.int :=
  de_op1 (op1_fn call_len_seq hg hm PySem.boot_len (by decide) (by decide) he) ha (fun _ => mono_ret _) fun F H v x Q s rv q => by
    rcases rv with rv | ⟨_, _, o, _⟩
    · cases rv with
      | scr h z => exact ⟨_, _, rfl, .inl (Evl.ex_l s h), q _ (by rw [List.length_map]; exact .int _)⟩
    · exact o.elim
theorem de_ixScr {wa : W (List Int)} {wb : W Int} (ha : DB X G ρ a wa D.scr) (hb : DB X G ρ b wb D.int) (hs : PlainIx b := by exact fun _ _ => rfl) : DE X G ρ (.Subscript a b pos) (bnd wa fun xs => bnd wb fun i => wIx xs i) D.int :=
  de_op2 (op2_ix ix_list hs) ha hb (fun _ _ => mono_lft _) fun F H v u x y Q s rv ru q => by
    obtain rfl := ru.int
    obtain ⟨e, he, q⟩ := q
    rcases rv with rv | ⟨_, _, o, _⟩
    · cases rv with
      | scr h z =>
        refine ⟨_, _, y, .int e, rfl, rfl, Evl.ex_l s h, ?_, q _ (.int _)⟩
        unfold atI at he ⊢
        rw [List.length_map]
        cases q : ixN x.length y with
        | none => rw [q] at he; cases he
        | some j =>
          rw [q] at he
          have he : x[j]? = some e := he
          show (x.map V.int)[j]? = _
          rw [List.getElem?_map, he]
          rfl
    · exact o.elim
/-! ### int(n), abs, max, min of two -/
theorem de_int1 {wa : W Int} (hm : X.mg "int" = none) (hg : Gl X "int") (ha : DB X G ρ a wa D.int) (he : starEach [a] X.env = (false, eval a X.env) :: starEach [] X.env := by rfl) : DE X G ρ (.Call (.Name "int" p) [a] [] pos) wa D.int :=
  (de_op1 (f := ret) (ec := D.int) (op1_ty call_int1 hg hm (by decide +kernel) (by decide) (by decide) he) ha (fun _ => mono_ret _) fun F H v x Q s rv q => by
    obtain rfl := rv.int
    exact .inl ⟨x, rfl, q _ (.int _)⟩).conv rfl
section
variable {wa wb : W Int}
theorem de_max2 (g : Gd X k) (hm : X.mg "max" = none) (hg : Gl X "max") (ha : DB X G ρ a wa D.int) (hb : DB X G ρ b wb D.int) (he : starEach [a, b] X.env = (false, eval a X.env) :: starEach [b] X.env := by rfl) (he2 : starEach [b] X.env = (false, eval b X.env) :: starEach [] X.env := by rfl) (hpl : (backTo pos (starEach [b] X.env)).any (·.1) = false := by rfl) :
    DE X G ρ (.Call (.Name "max" p) [a, b] [] pos) (bnd wa fun x => bnd wb fun y => ret (if y > x then y else x)) D.int :=
  de_ii (op2_fn (call_max2 g.calm) hg hm (by decide +kernel) (by decide) (by decide) he he2 hpl) ha hb (fun _ _ => mono_ret _) fun F H x y Q q => ⟨x, y, rfl, q _ (.int _)⟩
theorem de_min2 (g : Gd X k) (hm : X.mg "min" = none) (hg : Gl X "min") (ha : DB X G ρ a wa D.int) (hb : DB X G ρ b wb D.int) (he : starEach [a, b] X.env = (false, eval a X.env) :: starEach [b] X.env := by rfl) (he2 : starEach [b] X.env = (false, eval b X.env) :: starEach [] X.env := by rfl) (hpl : (backTo pos (starEach [b] X.env)).any (·.1) = false := by rfl) :
    DE X G ρ (.Call (.Name "min" p) [a, b] [] pos) (bnd wa fun x => bnd wb fun y => ret (if y < x then y else x)) D.int :=
  de_ii (op2_fn (call_min2 g.calm) hg hm (by decide +kernel) (by decide) (by decide) he he2 hpl) ha hb (fun _ _ => mono_ret _) fun F H x y Q q => ⟨x, y, rfl, q _ (.int _)⟩
end
/-! ### list(..), tuple(..), +, slices -/
theorem dl_listL {wa : W (List α)} (hm : X.mg "list" = none) (hg : Gl X "list") (ha : DB X G ρ a wa (eL ea)) (he : starEach [a] X.env = (false, eval a X.env) :: starEach [] X.env := by rfl) : DL X G ρ (.Call (.Name "list" p) [a] [] pos) wa (eL ea) :=
  dl_op1 (f := ret) (op1_ty call_list_of hg hm (by decide +kernel) (by decide) (by decide) he) ha (fun _ => mono_ret _) fun F H v x Q s rv q => by
    obtain ⟨p, vs, rfl, h, r, z⟩ := rv.lst s
    exact ⟨p, vs, rfl, .inl (SqL.of h), fun l hl => q l _ hl ⟨vs, upd_same, r, z⟩⟩
theorem dl_listT {wa : W (List α)} (hm : X.mg "list" = none) (hg : Gl X "list") (ha : DB X G ρ a wa (eT ea)) (he : starEach [a] X.env = (false, eval a X.env) :: starEach [] X.env := by rfl) : DL X G ρ (.Call (.Name "list" p) [a] [] pos) wa (eL ea) :=
  dl_op1 (f := ret) (op1_ty call_list_of hg hm (by decide +kernel) (by decide) (by decide) he) ha (fun _ => mono_ret _) fun F H v x Q s rv q => by
    obtain ⟨p, vs, rfl, h, r, z⟩ := rv.tup s
    exact ⟨p, vs, rfl, .inr (SqT.of h), fun l hl => q l _ hl ⟨vs, upd_same, r, z⟩⟩
theorem de_tupleL {wa : W (List α)} (hm : X.mg "tuple" = none) (hg : Gl X "tuple") (ha : DB X G ρ a wa (eL ea)) (he : starEach [a] X.env = (false, eval a X.env) :: starEach [] X.env := by rfl) : DE X G ρ (.Call (.Name "tuple" p) [a] [] pos) wa (eT ea) :=
  de_tup1 (f := ret) (op1_ty call_tuple_of hg hm (by decide +kernel) (by decide) (by decide) he) ha (fun _ => mono_ret _) fun F H v x Q s rv q => by
    obtain ⟨p, vs, rfl, h, r, z⟩ := rv.lst s
    refine ⟨p, vs, rfl, .inl ⟨SqL.of h, fun l hl => q.2 l _ hl (.tup upd_same (r.mono (sub_upd ?_)) z)⟩⟩
    cases y : F l with
    | none => rfl
    | some o => rw [s l o y] at hl; cases hl
theorem de_tupleT {wa : W (List α)} (hm : X.mg "tuple" = none) (hg : Gl X "tuple") (ha : DE X G ρ a wa (eT ea)) (he : starEach [a] X.env = (false, eval a X.env) :: starEach [] X.env := by rfl) : DE X G ρ (.Call (.Name "tuple" p) [a] [] pos) wa (eT ea) :=
  de_op1 (f := ret) (ec := eT ea) (op1_ty call_tuple_of hg hm (by decide +kernel) (by decide) (by decide) he) ha.db (fun _ => mono_ret _) fun F H v x Q s rv q => by
    rcases rv with rv | ⟨_, _, o, _⟩
    · have rv' := rv
      unfold eT at rv
      cases rv with
      | tup h r z => exact ⟨_, _, rfl, .inr ⟨SqT.of (s _ _ h), q _ rv'⟩⟩
    · exact o.elim
def wCatL {α : Type} (xs ys : List α) : W (List α) := grd (xs.length + ys.length ≤ sizeLine) (ret (xs ++ ys))
theorem dl_cat {wa wb : W (List α)} (ha : DB X G ρ a wa (eL ea)) (hb : DB X G ρ b wb (eL ea)) : DL X G ρ (.BinOp a .Add b pos) (bnd wa fun x => bnd wb fun y => wCatL x y) (eL ea) :=
  dl_op2 (op2_bin op_cat) ha hb (fun _ _ => mono_grd (mono_ret _)) fun F H v u x y Q s rv ru q => by
    obtain ⟨p1, vs, rfl, h1, r1, z1⟩ := rv.lst s
    obtain ⟨p2, us, rfl, h2, r2, z2⟩ := ru.lst s
    obtain ⟨hz, q⟩ := q
    refine ⟨p1, p2, vs, us, rfl, rfl, h1, h2, by rw [r1.len, r2.len, List.length_map, List.length_map]; exact hz, fun l hl => q l _ hl ⟨vs ++ us, upd_same, by rw [List.map_append]; exact r1.app r2, by rw [List.length_map, List.length_append]; exact hz⟩⟩
theorem de_catT {wa wb : W (List α)} (ha : DE X G ρ a wa (eT ea)) (hb : DE X G ρ b wb (eT ea)) : DE X G ρ (.BinOp a .Add b pos) (bnd wa fun x => bnd wb fun y => wCatL x y) (eT ea) :=
  de_tup2 (op2_bin op_catA) ha.db hb.db (fun _ _ => mono_grd (mono_ret _)) fun F H v u x y Q s rv ru q => by
    have rv0 := rv
    have ru0 := ru
    obtain ⟨p1, vs, rfl, h1, r1, z1⟩ := rv.tup s
    obtain ⟨p2, us, rfl, h2, r2, z2⟩ := ru.tup s
    obtain ⟨hz, q1, q2⟩ := q
    have rr : ∀ {F1 : Hp} {v : V} {d : List D}, RepB X.K G F1 H v (.tup d) → Rep X.K F1 v (.tup d) := fun {F1 v d} r => by
      rcases r with r | ⟨_, _, o, _⟩
      · exact r
      · exact o.elim
    refine ⟨p1, p2, vs, us, rfl, rfl, SqT.of h1, SqT.of h2, by rw [r1.len, r2.len, List.length_map, List.length_map]; exact hz, fun hx => ?_, fun hx hy => ?_, fun hx hy l hl => ?_⟩
    · have e : x = [] := by
        have := r1.len
        rw [hx] at this
        cases x with
        | nil => rfl
        | cons _ _ => cases this
      subst e
      exact q1 _ (rr ru0)
    · have e : y = [] := by
        have := r2.len
        rw [hy] at this
        cases y with
        | nil => rfl
        | cons _ _ => cases this
      subst e
      exact q1 _ (by rw [List.append_nil]; exact rr rv0)
    · refine q2 l _ hl (.tup upd_same ?_ (by rw [List.length_map, List.length_append]; exact hz))
      have hF : F l = none := by
        cases y : F l with
        | none => rfl
        | some o => rw [s l o y] at hl; cases hl
      rw [List.map_append]
      exact (r1.mono (sub_upd hF)).app (r2.mono (sub_upd hF))
/-- xs[lo:hi] -/
def cut {α : Type} (xs : List α) (lo hi : Option Int) : List α := (xs.drop (HT.sIx xs.length 0 lo)).take (HT.sIx xs.length xs.length hi - HT.sIx xs.length 0 lo)
/-- a slice's part -/
structure DP (X : Cx) (G : Gh) (ρ : List Sl) (o : Option Expr) (w : W (Option Int)) : Prop where
  mono : Mono w
  run : ∃ to, PO X o to ∧ ∀ σ F H Q, Sta X.K G ρ σ F H → w (fun x => ∀ F' H', Sta X.K G ρ σ F' H' → Le G F H F' H' → Q x H') → to σ H Q
theorem dp_none : DP X G ρ none (ret none) := ⟨mono_ret _, tNoPart, po_none, fun σ F H Q st q => q F H st (Le.refl _ _ _)⟩
theorem dp_some {w : W Int} (h : DB X G ρ e w D.int) : DP X G ρ (some e) (bnd w fun i => ret (some i)) :=
  ⟨mono_bnd h.mono fun _ => mono_ret _, tPart (bE X e), po_some pe_b, fun σ F H Q st q => h.run σ F H _ st (h.mono _ _ (fun i q v F' H' st' l r => by
    obtain rfl := r.int
    exact ⟨i, rfl, q F' H' st' l⟩) q)⟩
section
variable {lo hi : Option Expr} {wl wh : W (Option Int)} {p2 : Pos}
theorem run_sl {r : V → Option Int → Option Int → Hp → VK → Prop} (hr : SlR X r) (ha : DB X G ρ a wa ea) (hl : DP X G ρ lo wl) (hh : DP X G ρ hi wh) {σ : L2.St} {F H : Hp} {Q : VK} (st : Sta X.K G ρ σ F H)
    (h : wa fun x => wl fun l => wh fun u => ∀ v F' H', Sta X.K G ρ σ F' H' → Le G F H F' H' → RepB X.K G F' H' v (ea x) → r v l u H' Q) : bE X (.Subscript a (.Slice lo hi none p2) pos) σ H Q := by
  obtain ⟨tl, p1, h1⟩ := hl.run
  obtain ⟨th, p3, h3⟩ := hh.run
  exact PE_.b (pe_slice hr pe_b p1 p3) (ha.run σ F H _ st (ha.mono _ _ (fun x q v F1 H1 st1 l1 rv => h1 σ F1 H1 _ st1 (hl.mono _ _ (fun l q F2 H2 st2 l2 => h3 σ F2 H2 _ st2 (hh.mono _ _ (fun u q F3 H3 st3 l3 =>
    q v F3 H3 st3 ((l1.trans l2).trans l3) (rv.mono (l2.trans l3))) q)) q)) h))
theorem mono_sl {f : α → Option Int → Option Int → W γ} (ha : Mono wa) (hl : Mono wl) (hh : Mono wh) (hf : ∀ x l u, Mono (f x l u)) : Mono (bnd wa fun x => bnd wl fun l => bnd wh fun u => f x l u) := mono_bnd ha fun x => mono_bnd hl fun l => mono_bnd hh fun u => hf x l u
theorem cut_reps {K : PySem.W.Frag} {F : Hp} {vs : List V} {xs : List α} {l u : Option Int} (rs : Reps K F vs (xs.map ea)) : Reps K F (cutV vs l u) ((cut xs l u).map ea) := by
  have hl : vs.length = xs.length := by rw [rs.len, List.length_map]
  unfold cutV cut
  rw [hl, List.map_take, List.map_drop]
  exact (rs.drop _).take _
theorem cut_len (xs : List α) (l u : Option Int) : (cut xs l u).length ≤ xs.length := by
  unfold cut
  rw [List.length_take, List.length_drop]
  omega
theorem dl_slL {wa : W (List α)} (ha : DB X G ρ a wa (eL ea)) (hl : DP X G ρ lo wl) (hh : DP X G ρ hi wh) : DL X G ρ (.Subscript a (.Slice lo hi none p2) pos) (bnd wa fun x => bnd wl fun l => bnd wh fun u => ret (cut x l u)) (eL ea) :=
  ⟨mono_sl ha.mono hl.mono hh.mono fun _ _ _ => mono_ret _, fun σ F H Q st q => run_sl sl_list ha hl hh st (ha.mono _ _ (fun x => hl.mono _ _ fun l => hh.mono _ _ fun u q v F' H' st' le rv => by
    obtain ⟨p, vs, rfl, h, r, z⟩ := rv.lst st'.sub
    refine ⟨p, vs, rfl, SqL.of h, fun np hn => ?_⟩
    have zz := st'.laid (o := .lst (cutV vs l u)) hn
    refine q np F' _ zz.1 (le.trans zz.2) ?_ (st'.hn hn).2.2 ⟨_, upd_same, cut_reps r, by rw [List.length_map]; exact Nat.le_trans (cut_len x l u) (by simpa using z)⟩
    cases y : H np with
    | none => rfl
    | some o =>
      have := le.h np o y (st'.hn hn).2.1
      rw [hn] at this
      cases this) q)⟩
theorem de_slS {wa : W Tx} (ha : DB X G ρ a wa eS) (hl : DP X G ρ lo wl) (hh : DP X G ρ hi wh) : DE X G ρ (.Subscript a (.Slice lo hi none p2) pos) (bnd wa fun x => bnd wl fun l => bnd wh fun u => ret (cut x l u)) eS :=
  ⟨mono_sl ha.mono hl.mono hh.mono fun _ _ _ => mono_ret _, fun σ F H Q st q => run_sl sl_str ha hl hh st (ha.mono _ _ (fun x => hl.mono _ _ fun l => hh.mono _ _ fun u q v F' H' st' le rv => by
    obtain ⟨rfl, z⟩ := rv.tx
    refine ⟨_, rfl, by simpa [Str.length] using z, ?_⟩
    have e : cutS ⟨x.toArray⟩ l u = ⟨(cut x l u).toArray⟩ := by
      unfold cutS cut
      simp [Str.length]
    rw [e]
    exact q _ F' H' st' le (rep_tx (Nat.le_trans (cut_len x l u) z))) q)⟩
theorem de_slT {wa : W (List α)} (ha : DE X G ρ a wa (eT ea)) (hl : DP X G ρ lo wl) (hh : DP X G ρ hi wh) : DE X G ρ (.Subscript a (.Slice lo hi none p2) pos) (bnd wa fun x => bnd wl fun l => bnd wh fun u => ret (cut x l u)) (eT ea) :=
  ⟨mono_sl ha.mono hl.mono hh.mono fun _ _ _ => mono_ret _, fun σ F H Q st q => run_sl sl_tupA ha.db hl hh st (ha.mono _ _ (fun x => hl.mono _ _ fun l => hh.mono _ _ fun u q v F' H' st' le rv => by
    have rv0 : Rep X.K F' v (eT ea x) := by
      rcases rv with r | ⟨_, _, o, _⟩
      · exact r
      · exact o.elim
    obtain ⟨p, vs, rfl, h, r, z⟩ := rv.tup st'.sub
    have hlen : vs.length = x.length := by rw [r.len, List.length_map]
    refine ⟨p, vs, rfl, SqT.of h, fun hw => ?_, fun _ np hn => ?_⟩
    · have e : cut x l u = x := by
        unfold cut
        rw [← hlen, hw.1, hw.2, List.drop_zero, Nat.sub_zero, hlen, List.take_length]
      have q : ∀ (v : V) (F' H' : Hp), Sta X.K G ρ σ F' H' → Le G F H F' H' → Rep X.K F' v (eT ea (cut x l u)) → Q v H' := q
      rw [e] at q
      exact q _ F' H' st' le rv0
    · have zz := st'.laidF (o := .tup (cutV vs l u)) hn
      exact q _ _ _ zz.1 (le.trans zz.2) (.tup upd_same ((cut_reps r).mono zz.2.f) (by rw [List.length_map]; exact Nat.le_trans (cut_len x l u) (by simpa using z)))) q)⟩
end
/-! ### sums, greatest, least, all, any -/
theorem reps_map {K : PySem.W.Frag} {F : Hp} {f : α → V} (hf : ∀ v x, Rep K F v (ea x) → v = f x) : ∀ {vs : List V} {xs : List α}, Reps K F vs (xs.map ea) → vs = xs.map f
  | [], [], _ => rfl
  | v :: vs, x :: xs, .cons h r => by rw [List.map_cons, hf v x h, reps_map hf r]
theorem reps_int {K : PySem.W.Frag} {F : Hp} {vs : List V} {xs : List Int} (r : Reps K F vs (xs.map D.int)) : vs = xs.map V.int := reps_map (fun v x h => by cases h; rfl) r
theorem reps_bl {K : PySem.W.Frag} {F : Hp} {vs : List V} {xs : List Bool} (r : Reps K F vs (xs.map D.bl)) : vs = xs.map V.bl := reps_map (fun v x h => by cases h; rfl) r
theorem reps_tx {K : PySem.W.Frag} {F : Hp} {vs : List V} {xs : List Tx} (r : Reps K F vs (xs.map eS)) : vs = xs.map fun l => V.str ⟨l.toArray⟩ := reps_map (fun v x h => (RepB.tx (G := ⟨fun _ => none, fun _ => none, none, 0⟩) (H := fun _ => none) (.inl h)).1) r
section
variable {wa : W (List Int)}
theorem de_sum (g : Gd X k) (hm : X.mg "sum" = none) (hg : Gl X "sum") (ha : DB X G ρ a wa (eL D.int)) (he : starEach [a] X.env = (false, eval a X.env) :: starEach [] X.env := by rfl) : DE X G ρ (.Call (.Name "sum" p) [a] [] pos) (bnd wa fun xs => ret xs.sum) D.int :=
  de_op1 (op1_fn (cr_sum g.calm) hg hm (by decide +kernel) (by decide) (by decide) he) ha (fun _ => mono_ret _) fun F H v x Q s rv q => by
    obtain ⟨p, vs, rfl, h, r, z⟩ := rv.lst s
    rw [reps_int r] at h
    exact ⟨p, x, rfl, SqL.of h, q _ (.int _)⟩
def wMax (xs : List Int) : W Int := fun Φ => xs ≠ [] ∧ ∀ m, m ∈ xs → (∀ y, y ∈ xs → y ≤ m) → Φ m
def wMin (xs : List Int) : W Int := fun Φ => xs ≠ [] ∧ ∀ m, m ∈ xs → (∀ y, y ∈ xs → m ≤ y) → Φ m
theorem mono_wMax (xs : List Int) : Mono (wMax xs) := fun P Q i q => ⟨q.1, fun m h1 h2 => i m (q.2 m h1 h2)⟩
theorem mono_wMin (xs : List Int) : Mono (wMin xs) := fun P Q i q => ⟨q.1, fun m h1 h2 => i m (q.2 m h1 h2)⟩
theorem de_max (g : Gd X k) (hm : X.mg "max" = none) (hg : Gl X "max") (ha : DB X G ρ a wa (eL D.int)) (he : starEach [a] X.env = (false, eval a X.env) :: starEach [] X.env := by rfl) : DE X G ρ (.Call (.Name "max" p) [a] [] pos) (bnd wa wMax) D.int :=
  de_op1 (op1_fn (cr_max g.calm) hg hm (by decide +kernel) (by decide) (by decide) he) ha mono_wMax fun F H v x Q s rv q => by
    obtain ⟨p, vs, rfl, h, r, z⟩ := rv.lst s
    rw [reps_int r] at h
    exact ⟨p, x, rfl, SqL.of h, List.length_pos_iff.mpr q.1, fun m h1 h2 => q.2 m h1 h2 _ (.int _)⟩
theorem de_min (g : Gd X k) (hm : X.mg "min" = none) (hg : Gl X "min") (ha : DB X G ρ a wa (eL D.int)) (he : starEach [a] X.env = (false, eval a X.env) :: starEach [] X.env := by rfl) : DE X G ρ (.Call (.Name "min" p) [a] [] pos) (bnd wa wMin) D.int :=
  de_op1 (op1_fn (cr_min g.calm) hg hm (by decide +kernel) (by decide) (by decide) he) ha mono_wMin fun F H v x Q s rv q => by
    obtain ⟨p, vs, rfl, h, r, z⟩ := rv.lst s
    rw [reps_int r] at h
    exact ⟨p, x, rfl, SqL.of h, List.length_pos_iff.mpr q.1, fun m h1 h2 => q.2 m h1 h2 _ (.int _)⟩
theorem dl_sortedI (hm : X.mg "sorted" = none) (hg : Gl X "sorted") (ha : DB X G ρ a wa (eL D.int)) (he : starEach [a] X.env = (false, eval a X.env) :: starEach [] X.env := by rfl) : DL X G ρ (.Call (.Name "sorted" p) [a] [] pos) (bnd wa fun xs => fun Φ => ∀ ys : List Int, ys.Perm xs → ys.Pairwise (· ≤ ·) → Φ ys) (eL D.int) :=
  dl_op1 (op1_fn cr_sortedI hg hm (by decide +kernel) (by decide) (by decide) he) ha (fun xs P Q i q ys h1 h2 => i ys (q ys h1 h2)) fun F H v x Q s rv q => by
    obtain ⟨p, vs, rfl, h, r, z⟩ := rv.lst s
    rw [reps_int r] at h
    refine ⟨p, x, rfl, SqL.of h, fun ys l h1 h2 hn => q ys h1 h2 l _ hn ⟨_, upd_same, ?_, by rw [List.length_map, h1.length_eq]; simpa using z⟩⟩
    clear q h2 h1
    induction ys with
    | nil => exact .nil
    | cons y ys ih => exact .cons (.int _) ih
end
theorem de_all {wa : W (List Bool)} (g : Gd X k) (hm : X.mg "all" = none) (hg : Gl X "all") (ha : DB X G ρ a wa (eL D.bl)) (he : starEach [a] X.env = (false, eval a X.env) :: starEach [] X.env := by rfl) : DE X G ρ (.Call (.Name "all" p) [a] [] pos) (bnd wa fun xs => ret (xs.all id)) D.bl :=
  de_op1 (op1_fn (cr_all g.calm) hg hm (by decide +kernel) (by decide) (by decide) he) ha (fun _ => mono_ret _) fun F H v x Q s rv q => by
    obtain ⟨p, vs, rfl, h, r, z⟩ := rv.lst s
    rw [reps_bl r] at h
    exact ⟨p, x, rfl, SqL.of h, q _ (.bl _)⟩
theorem de_any {wa : W (List Bool)} (g : Gd X k) (hm : X.mg "any" = none) (hg : Gl X "any") (ha : DB X G ρ a wa (eL D.bl)) (he : starEach [a] X.env = (false, eval a X.env) :: starEach [] X.env := by rfl) : DE X G ρ (.Call (.Name "any" p) [a] [] pos) (bnd wa fun xs => ret (xs.any id)) D.bl :=
  de_op1 (op1_fn (cr_any g.calm) hg hm (by decide +kernel) (by decide) (by decide) he) ha (fun _ => mono_ret _) fun F H v x Q s rv q => by
    obtain ⟨p, vs, rfl, h, r, z⟩ := rv.lst s
    rw [reps_bl r] at h
    exact ⟨p, x, rfl, SqL.of h, q _ (.bl _)⟩
end
end Dt
/-! Dt9: owned lists changed; texts. -/
namespace Dt
open PySem PySem.Spec PyProof.Rows L2
section
variable {K : PySem.W.Frag} {G : Gh} {ρ : List Sl} {σ : L2.St} {F H : Hp} {i : Nat} {d d' : D} {a : Addr} {o : HO}
/-- the owned object of a slot changes -/
theorem Sta.updO (st : Sta K G ρ σ F H) (e : ρ[i]? = some (.ow d)) (ea : σ[i]? = some (some (V.ref a))) (o' : OwnAt K F (upd H a o) a d') : Sta K G (ρ.set i (.ow d')) σ F (upd H a o) := by
  obtain ⟨x, h1, b, rfl, ow, hF, h0, hb⟩ := st.sl i _ e
  rw [h1] at ea
  cases ea
  obtain ⟨u, hu⟩ := ow.some
  have st1 := (st.drop i).updU (o := o) hu hF h0 hb fun j d1 e' q => by
    rcases get_set e' with ⟨_, z⟩ | ⟨n, e'⟩
    · cases z
    · exact st.ne j i d1 d a n e' e q h1
  have st2 := st1.setO (i := i) o' hF h0 hb fun j d1 e' q => by
    rcases get_set e' with ⟨_, z⟩ | ⟨n, e'⟩
    · cases z
    · exact st.ne j i d1 d a n e' e q h1
  rw [List.set_set] at st2
  have es : σ.set i (some (V.ref a)) = σ := List.ext_getElem? fun j => by
    by_cases n : j = i
    · subst n
      have hl : j < σ.length := (List.getElem?_eq_some_iff.mp h1).1
      rw [List.getElem?_set_self hl, h1]
    · rw [set_ne' n]
  rw [es] at st2
  exact st2
end
section
variable {X : Cx} {G : Gh} {ρ : List Sl} {α β γ : Type} {R S B : Type} {eR : R → D} {eS' : S → List Sl} {eB : B → List Sl} {a b c e : Expr} {es : List Expr} {rest : List Stmt} {wa : W α} {wb : W β} {ea : α → D} {eb : β → D} {ec : γ → D} {k n m : Nat} {pos p apos cpos np : Pos} {N : List Str} {sc : Scope} {i : Nat} {x : Str}
/-- x.append(e) -/
theorem ds_append {xs : List α} {wr' : α → W (Fl R S B)} (hs : Sc X N sc) (hN : N[i]? = some x) (hv : Vis sc x) (hρ : ρ[i]? = some (.ow (eL ea xs))) (h : DE X G ρ e wa ea) (hr : ∀ y, DS X G (ρ.set i (.ow (eL ea (xs ++ [y])))) rest eR eS' eB (wr' y))
    (hd : (x == ("__debug__" : Str)) = false := by decide) (hcd : (x == ("__classdict__" : Str)) = false := by decide)
    (hbase : attributeBase (.Name x np) "append" X.env (eval (.Name x np) X.env) = eval (.Name x np) X.env := by rfl)
    (hfew : ((backTo cpos (starEach [e] X.env)).all (fun x => !x.1) && (backToKw cpos (keywordEach [] X.env)).all (fun x => x.1.isSome) && decide ([e].length + ([] : List Keyword).length + (if ([] : List Keyword).isEmpty then 0 else 1) < 30)) = true := by rfl)
    (hline : (apos.endLine == cpos.line) = true := by rfl) (hst : starEach [e] X.env = (false, eval e X.env) :: starEach [] X.env := by rfl)
    (hsw : swapsWith (.Call (.Attribute (.Name x np) "append" apos) [e] [] cpos) none pos.line X.env = pure false := by rfl) :
    DS X G ρ (.Expr (.Call (.Attribute (.Name x np) "append" apos) [e] [] cpos) pos :: rest) eR eS' eB (bnd wa fun y => grd (xs.length < sizeLine) (wr' y)) :=
  ⟨mono_bnd h.mono fun y => mono_grd (hr y).mono, fun σ F H Dn st q => PSs_.b (pss_cons (ps_expr (pe_bm PySem.F.plainAttrs_list PySem.F.slot_list_append PySem.F.type_list_append mt_append (pe_var (i := i) (by rw [hs.N]; exact hN) (by rw [hs.s]; exact hv) hd hcd) (pa_cons pe_b pa_nil hst) hbase hfew hline hst) hsw) pss_b) (by
    obtain ⟨_, h1, ad, rfl, ⟨vs, ho, rs, hz⟩, hF, h0, hb⟩ := st.sl i _ hρ
    refine ⟨_, h1, .inl ⟨rfl, _, SqL.of ho⟩, h.run σ F H _ st (h.mono _ _ (fun y q v F' H' st' l r => ?_) q)⟩
    obtain ⟨_, h1', ad', e', ⟨vs', ho', rs', hz'⟩, hF', _, _⟩ := st'.sl i _ hρ
    rw [h1] at h1'
    cases h1'
    cases e'
    obtain ⟨hlt, q⟩ := q
    have hvl : vs'.length = xs.length := by rw [rs'.len, List.length_map]
    refine ⟨_, vs', v, rfl, rfl, ho', by omega, ?_⟩
    have st2 := st'.updO (o := .lst (vs' ++ [v])) (d' := eL ea (xs ++ [y])) hρ h1 ⟨_, upd_same, by rw [List.map_append]; exact rs'.app (.one r), by rw [List.length_map, List.length_append]; exact hlt⟩
    exact (hr y).run σ F' _ Dn st2 ((hr y).mono _ _ (fun o => Post.mono l.f) q))⟩
end
end Dt
/-! Dt10: texts; chains; stores into owned lists. -/
namespace Dt
open PySem PySem.Spec PyProof.Rows L2
theorem len_tx (l : Tx) : (⟨l.toArray⟩ : Str).length = l.length := by simp [Str.length]
theorem tx_get (l : Tx) (i : Nat) : (⟨l.toArray⟩ : Str).cps[i]? = l[i]? := by simp
section
variable {X : Cx} {G : Gh} {ρ : List Sl} {α β γ : Type} {R S B : Type} {eR : R → D} {eS' : S → List Sl} {eB : B → List Sl} {a b c e : Expr} {rest : List Stmt} {wa : W α} {wb : W β} {ea : α → D} {eb : β → D} {ec : γ → D} {k n m : Nat} {pos p apos cpos np : Pos} {N : List Str} {sc : Scope} {i : Nat} {x : Str}
theorem flat_tx : Flat eS := fun K F F' v x r => flat_str K F F' v ⟨x.toArray⟩ r
theorem flat_u : Flat eU := fun _ _ _ _ _ r => by
  cases r
  exact .non
/-! ### chains -/
section
variable {o1 o2 : CmpOp} {f g : Int → Int → Bool} {wa wb wc : W Int}
abbrev CII (X : Cx) (o : CmpOp) (f : Int → Int → Bool) : Prop := OpR X (compareOp o) (rI0 fun i j => .bl (f i j))
theorem op_eqI : CII X .Eq fun i j => decide (i = j) := by
  intro pins s σ H x y v u Q I rx ry h
  obtain ⟨i, j, rfl, rfl, q⟩ := h
  exact op_eq pins s σ H _ _ v u Q I rx ry ⟨rfl, by
    have e : decide (V.int i = V.int j) = decide (i = j) := by simp
    rw [e]
    exact q⟩
theorem de_chain (h1 : CII X o1 f) (h2 : CII X o2 g) (ha : DB X G ρ a wa D.int) (hb : DB X G ρ b wb D.int) (hc : DB X G ρ c wc D.int) (hm : lastMarks [o1, o2] [b, c] = false := by with_unfolding_all rfl) :
    DE X G ρ (.Compare a [o1, o2] [b, c] pos) (bnd wa fun x => bnd wb fun y => if f x y then bnd wc fun z => ret (g y z) else ret false) D.bl :=
  ⟨mono_bnd ha.mono fun x => mono_bnd hb.mono fun y => mono_ite (mono_bnd hc.mono fun _ => mono_ret _) (mono_ret _), fun σ F H Q st q => PE_.b (pe_chain h1 h2 pe_b pe_b pe_b hm) (run2 ha hb st (ha.mono _ _ (fun x => hb.mono _ _ fun y q v u F' H' st' l rv ru => by
    obtain rfl := rv.int
    obtain rfl := ru.int
    refine ⟨x, y, rfl, rfl, f x y, rfl, ?_⟩
    cases h : f x y with
    | false =>
      dsimp only at q
      rw [h] at q
      exact q _ F' H' st' l (.bl _)
    | true =>
      dsimp only at q
      rw [h] at q
      exact hc.run σ F' H' _ st' (hc.mono _ _ (fun z q w F2 H2 st2 l2 rw' => by
        obtain rfl := rw'.int
        exact ⟨y, z, rfl, rfl, q _ F2 H2 st2 (l.trans l2) (.bl _)⟩) q)) q))⟩
theorem dt_chain (h1 : CII X o1 f) (h2 : CII X o2 g) (ha : DB X G ρ a wa D.int) (hb : DB X G ρ b wb D.int) (hc : DB X G ρ c wc D.int) (hm : lastMarks [o1, o2] [b, c] = false := by with_unfolding_all rfl) :
    DT X G ρ (.Compare a [o1, o2] [b, c] pos) (bnd wa fun x => bnd wb fun y => if f x y then bnd wc fun z => ret (g y z) else ret false) :=
  ⟨mono_bnd ha.mono fun x => mono_bnd hb.mono fun y => mono_ite (mono_bnd hc.mono fun _ => mono_ret _) (mono_ret _), fun σ F H Q st q => PT_.b (pt_chain h1 h2 pe_b pe_b pe_b hm) (run2 ha hb st (ha.mono _ _ (fun x => hb.mono _ _ fun y q v u F' H' st' l rv ru => by
    obtain rfl := rv.int
    obtain rfl := ru.int
    refine ⟨x, y, rfl, rfl, f x y, rfl, ?_⟩
    cases h : f x y with
    | false =>
      dsimp only at q
      rw [h] at q
      exact ⟨false, rfl, q F' H' st' l⟩
    | true =>
      dsimp only at q
      rw [h] at q
      exact hc.run σ F' H' _ st' (hc.mono _ _ (fun z q w F2 H2 st2 l2 rw' => by
        obtain rfl := rw'.int
        exact ⟨y, z, rfl, rfl, g y z, rfl, q F2 H2 st2 (l.trans l2)⟩) q)) q))⟩
end
/-! ### texts -/
section
variable {wa : W Tx}
theorem ds_augT {pos' : Pos} {y : Tx} {wb : W Tx} {wr : Tx → W (Fl R S B)} (g : Gd X k) (hs : Sc X N sc) (hN : N[i]? = some x) (hl : Loc sc x) (hf : X.fn x = true ∨ sc.names.lookup x = some .local) (hρ : ρ[i]? = some (.fr (eS y)))
    (hb : DB X G ρ e wb eS) (hr : ∀ y, DS X G (ρ.set i (.fr (eS y))) rest eR eS' eB (wr y)) : DS X G ρ (.AugAssign (.Name x pos') .Add e pos :: rest) eR eS' eB (bnd wb fun z => bnd (wCat y z) wr) :=
  ds_aug (f := fun x y => wCat x y) (ec := eS) (enc := eS) g hs hN hl hf hρ iop_add_str hb (fun _ => mono_grd (mono_ret _)) (fun F H v u z Q s rv ru q => by
    obtain ⟨rfl, z1⟩ := rv.tx
    obtain ⟨rfl, z2⟩ := ru.tx
    exact ⟨_, _, rfl, rfl, by rw [len_tx, len_tx]; exact q.1, q.2 _ (by rw [str_app]; exact rep_tx (by rw [List.length_append]; exact q.1))⟩) hr
def wMulS (x : Tx) (n : Int) : W Tx := grd (-(2 ^ 62) ≤ n ∧ x.length * n.toNat ≤ sizeLine ∧ n < 2 ^ 30) (ret (List.replicate n.toNat x).flatten)
theorem foldl_app (x : Tx) : ∀ (n : Nat) (acc : Array Nat), (List.replicate n x.toArray).foldl (· ++ ·) acc = (acc.toList ++ (List.replicate n x).flatten).toArray
  | 0, acc => by simp
  | n + 1, acc => by
    rw [List.replicate_succ, List.foldl_cons, foldl_app x n, List.replicate_succ, List.flatten_cons]
    simp
theorem op_mulS : OpR X (binaryOp .Mult) (fun v u H Q => ∃ (x : Tx) (n : Int), v = .str ⟨x.toArray⟩ ∧ u = .int n ∧ -(2 ^ 62) ≤ n ∧ x.length * n.toNat ≤ sizeLine ∧ n < 2 ^ 30 ∧ x.length ≤ sizeLine ∧ Q (.str ⟨(List.replicate n.toNat x).flatten.toArray⟩) H) := by
  intro pins s σ H v u v' u' Q I rx ry h
  obtain ⟨x, n, rfl, rfl, h1, h2, h3, h4, q⟩ := h
  obtain ⟨t, rfl⟩ := rx
  obtain ⟨t', rfl⟩ := ry
  refine PySem.SB.mul ⟨?_, ?_, ?_⟩ fun t' k => ⟨.str _, H, I.tok k, ⟨_, rfl⟩, ?_⟩
  · have e1 : ¬ n < -(2 ^ 63) := by omega
    have e2 : ¬ n ≥ 2 ^ 63 := by omega
    rw [decide_eq_false e1, decide_eq_false e2]
    rfl
  · intro hn _
    rw [len_tx]
    have h4' : (x.length : Int) ≤ 2 ^ 24 := by
      have : x.length ≤ 2 ^ 24 := h4
      omega
    have : (2 ^ 24 : Int) ≤ (2 ^ 63 - 1) / n := by
      refine (Int.le_ediv_iff_mul_le (by omega)).mpr ?_
      omega
    omega
  · intro hn _
    rw [len_tx]
    unfold Builtin.Str.tooLong
    have : ¬ x.length * n.toNat > sizeLine := by omega
    simpa using h2
  · have e : Txt.mul ⟨x.toArray⟩ n = ⟨(List.replicate n.toNat x).flatten.toArray⟩ := by
      unfold Txt.mul
      by_cases hn : n < 1
      · rw [if_pos hn]
        have : n.toNat = 0 := by omega
        rw [this]
        rfl
      · rw [if_neg hn]
        by_cases h1 : (n == 1 || (⟨x.toArray⟩ : Str).length == 0) = true
        · rw [if_pos h1]
          rw [len_tx] at h1
          rcases Bool.or_eq_true_iff.mp h1 with h | h
          · have : n = 1 := by simpa using h
            subst this
            simp
          · have : x = [] := List.eq_nil_of_length_eq_zero (by simpa using h)
            subst this
            simp
        · rw [if_neg h1, foldl_app]
          simp
    rw [e]
    exact q
theorem de_mulS {wb : W Int} (ha : DB X G ρ a wa eS) (hb : DB X G ρ b wb D.int) : DE X G ρ (.BinOp a .Mult b pos) (bnd wa fun x => bnd wb fun n => wMulS x n) eS :=
  de_op2 (op2_bin op_mulS) ha hb (fun _ _ => mono_grd (mono_ret _)) fun F H v u x y Q s rv ru q => by
    obtain ⟨rfl, z1⟩ := rv.tx
    obtain rfl := ru.int
    exact ⟨x, y, rfl, rfl, q.1.1, q.1.2.1, q.1.2.2, z1, q.2 _ (rep_tx (by simpa [Nat.mul_comm] using q.1.2.1))⟩
/-- str(n) -/
def strI (n : Int) : Tx := (toString n : Str).cps.toList
def wStr (n : Int) : W Tx := grd (n.natAbs < 10 ^ 40) (ret (strI n))
theorem log2_of {n : Int} (h : n.natAbs < 10 ^ 40) : n.natAbs.log2 < 1920 := by
  by_cases h0 : n.natAbs = 0
  · rw [h0]; decide
  · rw [Nat.log2_lt h0]
    exact Nat.lt_of_lt_of_le h (by decide +kernel)
theorem strI_len {n : Int} (h : n.natAbs < 10 ^ 40) : (strI n).length ≤ sizeLine := by
  have := int_text_fits (log2_of h)
  simpa [strI, Str.length] using this
theorem de_strI {wa : W Int} (hm : X.mg "str" = none) (hg : Gl X "str") (ha : DB X G ρ a wa D.int) (he : starEach [a] X.env = (false, eval a X.env) :: starEach [] X.env := by rfl) : DE X G ρ (.Call (.Name "str" p) [a] [] pos) (bnd wa wStr) eS :=
  de_op1 (op1_ty call_str_int hg hm (by decide +kernel) (by decide) (by decide) he) ha (fun _ => mono_grd (mono_ret _)) fun F H v x Q s rv q => by
    obtain rfl := rv.int
    exact ⟨x, rfl, log2_of q.1, q.2 _ (rep_tx (strI_len q.1))⟩
/-! methods -/
section
variable {T id : String} {name : Str} {r : V → List V → Hp → VK → Prop}
abbrev Op2m (X : Cx) (T : TE) (a b : Expr) (r : V → V → Hp → VK → Prop) (ty : V → Hp → Prop) : Prop := ∀ σ H Q, (bE X a σ H fun v H1 => ty v H1 ∧ bE X b σ H1 fun u H2 => r v u H2 Q) → T σ H Q
theorem op2_m (pa : PlainAttrs T) (slot : Slot T name id) (hty : typeOf (.builtin id) = pure (.type "method_descriptor")) (hm : MtR X id r)
    (hbase : attributeBase a name X.env (eval a X.env) = eval a X.env := by rfl)
    (hfew : ((backTo cpos (starEach [b] X.env)).all (fun x => !x.1) && (backToKw cpos (keywordEach [] X.env)).all (fun x => x.1.isSome) && decide ([b].length + ([] : List Keyword).length + (if ([] : List Keyword).isEmpty then 0 else 1) < 30)) = true := by rfl)
    (hline : (apos.endLine == cpos.line) = true := by rfl) (hs : starEach [b] X.env = (false, eval b X.env) :: starEach [] X.env := by rfl) :
    Op2m X (bE X (.Call (.Attribute a name apos) [b] [] cpos)) a b (fun v u => r v [u]) (fun v H => tyV X.K T v H) := fun _ _ _ h => PE_.b (pe_bm pa slot hty hm pe_b (pa_cons pe_b pa_nil hs) hbase hfew hline hs) h
theorem op3_m (pa : PlainAttrs T) (slot : Slot T name id) (hty : typeOf (.builtin id) = pure (.type "method_descriptor")) (hm : MtR X id r)
    (hbase : attributeBase a name X.env (eval a X.env) = eval a X.env := by rfl)
    (hfew : ((backTo cpos (starEach [b, c] X.env)).all (fun x => !x.1) && (backToKw cpos (keywordEach [] X.env)).all (fun x => x.1.isSome) && decide ([b, c].length + ([] : List Keyword).length + (if ([] : List Keyword).isEmpty then 0 else 1) < 30)) = true := by rfl)
    (hline : (apos.endLine == cpos.line) = true := by rfl) (hs : starEach [b, c] X.env = (false, eval b X.env) :: starEach [c] X.env := by rfl) (hs2 : starEach [c] X.env = (false, eval c X.env) :: starEach [] X.env := by rfl) (hpl : (backTo cpos (starEach [c] X.env)).any (·.1) = false := by rfl) :
    ∀ σ H Q, (bE X a σ H fun v H1 => tyV X.K T v H1 ∧ bE X b σ H1 fun u H2 => bE X c σ H2 fun z H3 => r v [u, z] H3 Q) → bE X (.Call (.Attribute a name apos) [b, c] [] cpos) σ H Q := fun _ _ _ h => PE_.b (pe_bm pa slot hty hm pe_b (pa_cons pe_b (pa_cons pe_b pa_nil hs2) hs) hbase hfew hline hs hpl) h
end
theorem de_opS {T : TE} {r : V → V → Hp → VK → Prop} {f : Tx → β → W γ} (E : Op2m X T a b r (fun v H => tyV X.K "str" v H)) (ha : DB X G ρ a wa eS) (hb : DB X G ρ b wb eb) (mf : ∀ x y, Mono (f x y))
    (snd : ∀ F H u x y Q, Sub F H → x.length ≤ sizeLine → RepB X.K G F H u (eb y) → f x y (fun z => ∀ v', Rep X.K F v' (ec z) → Q v' H) → r (.str ⟨x.toArray⟩) u H Q) : DQ X G ρ T (bnd wa fun x => bnd wb fun y => f x y) ec :=
  ⟨mono_bnd ha.mono fun x => mono_bnd hb.mono fun y => mf x y, fun σ F H Q st q => E σ H Q (ha.run σ F H _ st (ha.mono _ _ (fun x q v F1 H1 st1 l1 r1 => by
    obtain ⟨rfl, z⟩ := r1.tx
    exact ⟨rfl, hb.run σ F1 H1 _ st1 (hb.mono _ _ (fun y q u F2 H2 st2 l2 r2 => snd F2 H2 u x y Q st2.sub z r2 (mf x y _ _ (fun w q v' r' => q v' F2 H2 st2 (l1.trans l2) r') q)) q)⟩) q))⟩
theorem subAt_tx (x y : Tx) (i : Nat) : (i + (⟨y.toArray⟩ : Str).length ≤ (⟨x.toArray⟩ : Str).length ∧ Builtin.Str.subAt ⟨x.toArray⟩ ⟨y.toArray⟩ i = true) ↔ (i + y.length ≤ x.length ∧ (x.drop i).take y.length = y) := by
  rw [PySem.StrLaws.subAt_eq, len_tx, len_tx]
  simp
theorem pre_tx (x y : Tx) : Txt.startswith ⟨x.toArray⟩ ⟨y.toArray⟩ = y.isPrefixOf x := by
  rw [Bool.eq_iff_iff]
  have h := subAt_tx x y 0
  unfold Txt.startswith
  rw [Bool.and_eq_true, decide_eq_true_eq, h, List.isPrefixOf_iff_prefix]
  constructor
  · rintro ⟨h1, h2⟩
    rw [List.drop_zero] at h2
    exact ⟨x.drop y.length, by conv => lhs; lhs; rw [← h2]
                               rw [List.take_append_drop]⟩
  · rintro ⟨t, rfl⟩
    simp
theorem de_startswith {wb : W Tx} (ha : DB X G ρ a wa eS) (hb : DB X G ρ b wb eS) (hbase : attributeBase a "startswith" X.env (eval a X.env) = eval a X.env := by rfl)
    (hfew : ((backTo cpos (starEach [b] X.env)).all (fun x => !x.1) && (backToKw cpos (keywordEach [] X.env)).all (fun x => x.1.isSome) && decide ([b].length + ([] : List Keyword).length + (if ([] : List Keyword).isEmpty then 0 else 1) < 30)) = true := by rfl)
    (hline : (apos.endLine == cpos.line) = true := by rfl) (hs : starEach [b] X.env = (false, eval b X.env) :: starEach [] X.env := by rfl) :
    DE X G ρ (.Call (.Attribute a "startswith" apos) [b] [] cpos) (bnd wa fun x => bnd wb fun y => ret (y.isPrefixOf x)) D.bl :=
  de_opS (op2_m PySem.F.plainAttrs_str PySem.F.slot_str_startswith PySem.F.type_str_startswith mt_startswith hbase hfew hline hs) ha hb (fun _ _ => mono_ret _) fun F H u x y Q s z ru q => by
    obtain ⟨rfl, z2⟩ := ru.tx
    exact ⟨_, _, rfl, rfl, by rw [pre_tx]; exact q _ (.bl _)⟩
/-- the first place of a sign -/
def wIndexS (x y : Tx) : W Int := fun Φ => ∃ c i, y = [c] ∧ x.idxOf? c = some i ∧ Φ (i : Int)
theorem mono_wIndexS (x y : Tx) : Mono (wIndexS x y) := fun P Q i ⟨c, j, e, h, q⟩ => ⟨c, j, e, h, i _ q⟩
theorem mt_indexS : MtR X "str.index" (fun x xs H Q => ∃ (a b : Str) (i : Nat) (r : List Nat), x = .str a ∧ xs = [.str b] ∧ Builtin.Str.occurrences a b 0 a.length 1 = i :: r ∧ Q (.int i) H) := by
  intro pins s σ H x xs v us Q I rx rs h
  obtain ⟨a, b, i, r, rfl, rfl, ho, h⟩ := h
  obtain ⟨t, rfl⟩ := rx
  cases rs with
  | cons r1 rs =>
    cases rs
    obtain ⟨u, rfl⟩ := r1
    exact PySem.SC.index ho ⟨.int i, H, I.tok _, ⟨_, rfl⟩, h⟩
theorem occ_idx {x : Tx} {c i : Nat} (h : x.idxOf? c = some i) : ∃ r, Builtin.Str.occurrences ⟨x.toArray⟩ ⟨#[c]⟩ 0 (⟨x.toArray⟩ : Str).length 1 = i :: r := by
  have hat : ∀ j, PySem.StrLaws.At ⟨x.toArray⟩ ⟨#[c]⟩ (⟨x.toArray⟩ : Str).length j ↔ x[j]? = some c := fun j => by
    exact (PySem.StrLaws.subAt_one ⟨x.toArray⟩ c j).trans (by simp)
  obtain ⟨hi, h1, h2⟩ := List.idxOf?_eq_some_iff.mp h
  rcases PySem.StrLaws.occ_head ⟨x.toArray⟩ ⟨#[c]⟩ 1 (Nat.le_refl 1) with ⟨_, hn⟩ | ⟨j, r, e, hj, hb⟩
  · exact absurd ((hat i).mpr (by rw [List.getElem?_eq_getElem hi, h1])) (hn i)
  · refine ⟨r, ?_⟩
    have hj' := (hat j).mp hj
    have : i = j := by
      rcases Nat.lt_trichotomy i j with h | h | h
      · exact absurd ((hat i).mpr (by rw [List.getElem?_eq_getElem hi, h1])) (hb i h)
      · exact h
      · obtain ⟨hjl, hje⟩ := List.getElem?_eq_some_iff.mp hj'
        exact absurd hje (h2 j h)
    subst this
    exact e
theorem de_indexS {wb : W Tx} (ha : DB X G ρ a wa eS) (hb : DB X G ρ b wb eS) (hbase : attributeBase a "index" X.env (eval a X.env) = eval a X.env := by rfl)
    (hfew : ((backTo cpos (starEach [b] X.env)).all (fun x => !x.1) && (backToKw cpos (keywordEach [] X.env)).all (fun x => x.1.isSome) && decide ([b].length + ([] : List Keyword).length + (if ([] : List Keyword).isEmpty then 0 else 1) < 30)) = true := by rfl)
    (hline : (apos.endLine == cpos.line) = true := by rfl) (hs : starEach [b] X.env = (false, eval b X.env) :: starEach [] X.env := by rfl) :
    DE X G ρ (.Call (.Attribute a "index" apos) [b] [] cpos) (bnd wa fun x => bnd wb fun y => wIndexS x y) D.int :=
  de_opS (op2_m PySem.F.plainAttrs_str PySem.F.slot_str_index PySem.F.type_str_index mt_indexS hbase hfew hline hs) ha hb mono_wIndexS fun F H u x y Q s z ru q => by
    obtain ⟨rfl, z2⟩ := ru.tx
    obtain ⟨c, i, rfl, h, q⟩ := q
    obtain ⟨r, e⟩ := occ_idx h
    exact ⟨_, _, i, r, rfl, rfl, e, q _ (.int _)⟩
/-- join -/
def joinT (s : Tx) : List Tx → Tx
  | [] => []
  | [x] => x
  | x :: y :: r => x ++ s ++ joinT s (y :: r)
theorem joinT_cons (s x : Tx) (r : List Tx) : joinT s (x :: r) = x ++ (r.map fun y => s ++ y).flatten := by
  induction r generalizing x with
  | nil => simp [joinT]
  | cons y r ih =>
    show x ++ s ++ joinT s (y :: r) = _
    rw [ih]
    simp
theorem foldl_glue (s : Tx) : ∀ (r : List Tx) (acc : Array Nat), (r.map fun l => (⟨l.toArray⟩ : Str)).foldl (fun acc p => acc ++ (⟨s.toArray⟩ : Str).cps ++ p.cps) acc = (acc.toList ++ (r.map fun y => s ++ y).flatten).toArray
  | [], acc => by simp
  | y :: r, acc => by
    rw [List.map_cons, List.foldl_cons, foldl_glue s r]
    simp
theorem join_tx (s : Tx) (ls : List Tx) : Txt.join ⟨s.toArray⟩ (ls.map fun l => ⟨l.toArray⟩) = ⟨(joinT s ls).toArray⟩ := by
  unfold Txt.join Builtin.Str.glued
  cases ls with
  | nil => rfl
  | cons x r =>
    rw [joinT_cons]
    show (⟨((r.map fun l => (⟨l.toArray⟩ : Str)).foldl _ x.toArray)⟩ : Str) = _
    rw [foldl_glue]
def wJoin (s : Tx) (ls : List Tx) : W Tx := grd ((ls.map List.length).sum + ls.length * s.length ≤ sizeLine) (ret (joinT s ls))
theorem joinT_len (s : Tx) : ∀ ls : List Tx, (joinT s ls).length ≤ (ls.map List.length).sum + ls.length * s.length
  | [] => by simp [joinT]
  | [x] => by simp [joinT]
  | x :: y :: r => by
    have ih := joinT_len s (y :: r)
    show (x ++ s ++ joinT s (y :: r)).length ≤ _
    simp only [List.length_append, List.map_cons, List.sum_cons, List.length_cons, Nat.add_mul, Nat.one_mul] at ih ⊢
    omega
theorem tx_map (ys : List Tx) : (ys.map fun l => V.str ⟨l.toArray⟩) = (ys.map fun l => (⟨l.toArray⟩ : Str)).map V.str := by simp
theorem de_joinL {wb : W (List Tx)} (ha : DB X G ρ a wa eS) (hb : DB X G ρ b wb (eL eS)) (hbase : attributeBase a "join" X.env (eval a X.env) = eval a X.env := by rfl)
    (hfew : ((backTo cpos (starEach [b] X.env)).all (fun x => !x.1) && (backToKw cpos (keywordEach [] X.env)).all (fun x => x.1.isSome) && decide ([b].length + ([] : List Keyword).length + (if ([] : List Keyword).isEmpty then 0 else 1) < 30)) = true := by rfl)
    (hline : (apos.endLine == cpos.line) = true := by rfl) (hs : starEach [b] X.env = (false, eval b X.env) :: starEach [] X.env := by rfl) :
    DE X G ρ (.Call (.Attribute a "join" apos) [b] [] cpos) (bnd wa fun x => bnd wb fun y => wJoin x y) eS :=
  de_opS (op2_m PySem.F.plainAttrs_str PySem.F.slot_str_join PySem.F.type_str_join mt_join hbase hfew hline hs) ha hb (fun _ _ => mono_grd (mono_ret _)) fun F H u x y Q s z ru q => by
    obtain ⟨p, vs, rfl, h, r, z2⟩ := ru.lst s
    obtain ⟨hz, q⟩ := q
    refine ⟨_, p, y.map fun l => ⟨l.toArray⟩, rfl, rfl, .inl (SqL.of (by rw [h, reps_tx r, tx_map])), ?_, ?_⟩
    · rw [List.map_map, List.length_map, len_tx]
      have e : (List.length ∘ fun l : Tx => l) = List.length := rfl
      have e2 : ((fun z : Str => z.length) ∘ fun l : Tx => (⟨l.toArray⟩ : Str)) = List.length := funext len_tx
      rw [e2]
      exact hz
    · rw [join_tx]
      exact q _ (rep_tx (Nat.le_trans (joinT_len x y) hz))
theorem de_joinT {wb : W (List Tx)} (ha : DB X G ρ a wa eS) (hb : DB X G ρ b wb (eT eS)) (hbase : attributeBase a "join" X.env (eval a X.env) = eval a X.env := by rfl)
    (hfew : ((backTo cpos (starEach [b] X.env)).all (fun x => !x.1) && (backToKw cpos (keywordEach [] X.env)).all (fun x => x.1.isSome) && decide ([b].length + ([] : List Keyword).length + (if ([] : List Keyword).isEmpty then 0 else 1) < 30)) = true := by rfl)
    (hline : (apos.endLine == cpos.line) = true := by rfl) (hs : starEach [b] X.env = (false, eval b X.env) :: starEach [] X.env := by rfl) :
    DE X G ρ (.Call (.Attribute a "join" apos) [b] [] cpos) (bnd wa fun x => bnd wb fun y => wJoin x y) eS :=
  de_opS (op2_m PySem.F.plainAttrs_str PySem.F.slot_str_join PySem.F.type_str_join mt_join hbase hfew hline hs) ha hb (fun _ _ => mono_grd (mono_ret _)) fun F H u x y Q s z ru q => by
    obtain ⟨p, vs, rfl, h, r, z2⟩ := ru.tup s
    obtain ⟨hz, q⟩ := q
    refine ⟨_, p, y.map fun l => ⟨l.toArray⟩, rfl, rfl, .inr (SqT.of (by rw [h, reps_tx r, tx_map])), ?_, ?_⟩
    · rw [List.map_map, List.length_map, len_tx]
      have e2 : ((fun z : Str => z.length) ∘ fun l : Tx => (⟨l.toArray⟩ : Str)) = List.length := funext len_tx
      rw [e2]
      exact hz
    · rw [join_tx]
      exact q _ (rep_tx (Nat.le_trans (joinT_len x y) hz))
/-- s.rjust(n, c) -/
def wRjust2 (x : Tx) (n : Int) (f : Tx) : W Tx := fun Φ => ∃ c, f = [c] ∧ -(2 ^ 62) ≤ n ∧ n ≤ 16777216 ∧ Φ (List.replicate (n.toNat - x.length) c ++ x)
theorem mono_wRjust2 (x : Tx) (n : Int) (f : Tx) : Mono (wRjust2 x n f) := fun P Q i ⟨c, e, h1, h2, q⟩ => ⟨c, e, h1, h2, i _ q⟩
theorem mt_rjustF : MtR X "str.rjust" (fun x xs H Q => ∃ (a f : Str) (i : Int), x = .str a ∧ xs = [.int i, .str f] ∧ PadOk i = true ∧ f.length = 1 ∧ Q (.str (Txt.rjustF a i (f.cps.getD 0 0))) H) := by
  intro pins s σ H x xs v us Q I rx rs h
  obtain ⟨a, f, i, rfl, rfl, h1, h2, h⟩ := h
  obtain ⟨t, rfl⟩ := rx
  cases rs with
  | cons r1 rs =>
    cases rs with
    | cons r2 rs =>
      cases rs
      obtain ⟨u, rfl⟩ := r1
      obtain ⟨z, rfl⟩ := r2
      exact PyProof.Rows.rjust_fill h1 h2 fun t' k => ⟨.str _, H, I.tok k, ⟨t', rfl⟩, h⟩
theorem padOk {n : Int} (h1 : -(2 ^ 62) ≤ n) (h2 : n ≤ 16777216) : PadOk n = true := by
  unfold PadOk fitsSsize Builtin.Str.tooLong
  have e1 : ¬ n < -(2 ^ 63) := by omega
  have e2 : ¬ n ≥ 2 ^ 63 := by omega
  have e3 : ¬ n.toNat > sizeLine := by show ¬ n.toNat > 2 ^ 24; omega
  simp [e1, e2]
  omega
theorem de_rjust2 {wb : W Int} {wc : W Tx} (ha : DB X G ρ a wa eS) (hb : DB X G ρ b wb D.int) (hc : DB X G ρ c wc eS) (hbase : attributeBase a "rjust" X.env (eval a X.env) = eval a X.env := by rfl)
    (hfew : ((backTo cpos (starEach [b, c] X.env)).all (fun x => !x.1) && (backToKw cpos (keywordEach [] X.env)).all (fun x => x.1.isSome) && decide ([b, c].length + ([] : List Keyword).length + (if ([] : List Keyword).isEmpty then 0 else 1) < 30)) = true := by rfl)
    (hline : (apos.endLine == cpos.line) = true := by rfl) (hs : starEach [b, c] X.env = (false, eval b X.env) :: starEach [c] X.env := by rfl) (hs2 : starEach [c] X.env = (false, eval c X.env) :: starEach [] X.env := by rfl) (hpl : (backTo cpos (starEach [c] X.env)).any (·.1) = false := by rfl) :
    DE X G ρ (.Call (.Attribute a "rjust" apos) [b, c] [] cpos) (bnd wa fun x => bnd wb fun y => bnd wc fun z => wRjust2 x y z) eS :=
  ⟨mono_bnd ha.mono fun x => mono_bnd hb.mono fun y => mono_bnd hc.mono fun z => mono_wRjust2 x y z, fun σ F H Q st q => op3_m PySem.F.plainAttrs_str PySem.F.slot_str_rjust PySem.F.type_str_rjust mt_rjustF hbase hfew hline hs hs2 hpl σ H Q (ha.run σ F H _ st (ha.mono _ _ (fun x q v F1 H1 st1 l1 r1 => by
    obtain ⟨rfl, z⟩ := r1.tx
    exact ⟨rfl, hb.run σ F1 H1 _ st1 (hb.mono _ _ (fun y q u F2 H2 st2 l2 r2 => by
      obtain rfl := r2.int
      exact hc.run σ F2 H2 _ st2 (hc.mono _ _ (fun w q u' F3 H3 st3 l3 r3 => by
        obtain ⟨rfl, z3⟩ := r3.tx
        obtain ⟨cc, rfl, h1, h2, q⟩ := q
        refine ⟨_, _, y, rfl, rfl, padOk h1 h2, rfl, ?_⟩
        have e : Txt.rjustF ⟨x.toArray⟩ y ((⟨([cc] : Tx).toArray⟩ : Str).cps.getD 0 0) = ⟨(List.replicate (y.toNat - x.length) cc ++ x).toArray⟩ := by
          have h := PyProof.Rows.rjustF_list ⟨x.toArray⟩ y cc
          rw [len_tx] at h
          have : ∀ s : Str, ∀ l : List Nat, s.cps.toList = l → s = ⟨l.toArray⟩ := fun s l e => by
            cases s
            simp at e
            subst e
            simp
          exact this _ _ (by simpa using h)
        rw [e]
        exact q _ F3 H3 st3 ((l1.trans l2).trans l3) (rep_tx (by
          rw [List.length_append, List.length_replicate]
          have : x.length ≤ 2 ^ 24 := z
          show _ ≤ 2 ^ 24
          omega))) q)) q)⟩) q))⟩
end
/-! ### stores -/
def wSet {α : Type} (xs : List α) (i : Int) (v : α) : W (List α) := fun Φ => ∃ j, ixN xs.length i = some j ∧ Φ (xs.set j v)
theorem mono_wSet {α : Type} (xs : List α) (i : Int) (v : α) : Mono (wSet xs i v) := fun P Q h ⟨j, e, q⟩ => ⟨j, e, h _ q⟩
theorem ds_setL {xs : List α} {wi : W Int} {wr : List α → W (Fl R S B)} (hs : Sc X N sc) (hN : N[i]? = some x) (hv : Vis sc x) (hρ : ρ[i]? = some (.ow (eL ea xs))) (h : DE X G ρ e wa ea) (hi : DB X G ρ b wi D.int) (hr : ∀ ys, DS X G (ρ.set i (.ow (eL ea ys))) rest eR eS' eB (wr ys))
    (hd : (x == ("__debug__" : Str)) = false := by decide) (hcd : (x == ("__classdict__" : Str)) = false := by decide)
    (has : ∀ v, assign (.Subscript (.Name x np) b p) X.env v = (do
      let ov ← holding [v] (eval (.Name x np) X.env)
      let iv ← holding [v, ov] (eval b X.env)
      standAt p
      holding [v, ov, iv] (setItem ov iv v)
      release [v, ov, iv] []) := by intro _; rfl)
    (hsw : swapsWithSole [.Subscript (.Name x np) b p] e pos.line X.env = pure false := by rfl) (hw : swappedStores [.Subscript (.Name x np) b p] e X.env = pure none := by rfl)
    (h1 : (assignEach [.Subscript (.Name x np) b p] X.env).map (·.2) = [assign (.Subscript (.Name x np) b p) X.env] := by rfl) :
    DS X G ρ (.Assign [.Subscript (.Name x np) b p] e pos :: rest) eR eS' eB (bnd wa fun y => bnd wi fun j => bnd (wSet xs j y) wr) :=
  ⟨mono_bnd h.mono fun y => mono_bnd hi.mono fun j => mono_bnd (mono_wSet _ _ _) fun ys => (hr ys).mono, fun σ F H Dn st q => PSs_.b (pss_cons (ps_asg pe_b (pg_sub (pe_var (i := i) (by rw [hs.N]; exact hN) (by rw [hs.s]; exact hv) hd hcd) pe_b set_list has) hsw hw h1) pss_b) (h.run σ F H _ st (h.mono _ _ (fun y q v F' H' st' l r => by
    obtain ⟨_, h1, ad, rfl, ⟨vs, ho, rs, hz⟩, hF, h0, hb⟩ := st'.sl i _ hρ
    refine ⟨_, h1, hi.run σ F' H' _ st' (hi.mono _ _ (fun j q u F2 H2 st2 l2 r2 => ?_) q)⟩
    obtain rfl := r2.int
    obtain ⟨jn, hj, q⟩ := q
    obtain ⟨_, h1', ad', e', ⟨vs', ho', rs', hz'⟩, hF', _, _⟩ := st2.sl i _ hρ
    rw [h1] at h1'
    cases h1'
    cases e'
    have hvl : vs'.length = xs.length := by rw [rs'.len, List.length_map]
    refine ⟨_, vs', j, jn, rfl, rfl, ho', by rw [hvl]; exact hj, ?_⟩
    have st3 := st2.updO (o := .lst (vs'.set jn v)) (d' := eL ea (xs.set jn y)) hρ h1 ⟨_, upd_same, by rw [List.map_set]; exact Reps.set (r.mono l2.f) jn rs', by rw [List.length_map, List.length_set]; rw [List.length_map] at hz'; exact hz'⟩
    exact (hr _).run σ F2 _ Dn st3 ((hr _).mono _ _ (fun o => Post.mono (l.f.trans l2.f)) q)) q))⟩
end
end Dt
/-! Dt11: dicts. -/
namespace Dt
open PySem PySem.Spec PyProof.Rows L2
section
variable {κ β : Type} [DecidableEq κ]
def dGet (kvs : List (κ × β)) (k : κ) : Option β := (kvs.find? fun p => decide (p.1 = k)).map (·.2)
def dHas (kvs : List (κ × β)) (k : κ) : Bool := (dGet kvs k).isSome
def dPut (kvs : List (κ × β)) (k : κ) (v : β) : List (κ × β) := if dHas kvs k then kvs.map fun p => if p.1 = k then (p.1, v) else p else kvs ++ [(k, v)]
theorem dGet_cons (p : κ × β) (r : List (κ × β)) (k : κ) : dGet (p :: r) k = if p.1 = k then some p.2 else dGet r k := by
  unfold dGet
  rw [List.find?_cons]
  by_cases e : p.1 = k <;> simp [e]
theorem dPut_len (kvs : List (κ × β)) (k : κ) (v : β) : (dPut kvs k v).length ≤ kvs.length + 1 := by
  unfold dPut
  split
  · rw [List.length_map]; omega
  · rw [List.length_append]; exact Nat.le_refl _
end
def kI : Int → Key := Sum.inl
def kS (l : Tx) : Key := Sum.inr ⟨l.toArray⟩
class KeyOf {κ : Type} (ek : κ → D) (kk : κ → Key) : Prop where
  inj : ∀ x y, kk x = kk y → x = y
  rep : ∀ (K : PySem.W.Frag) F v x, Rep K F v (ek x) → v = kV (kk x)
instance : KeyOf D.int kI := ⟨fun x y e => Sum.inl.inj e, fun K F v x r => by
  cases r
  rfl⟩
instance : KeyOf eS kS := ⟨fun x y e => by
  have := Sum.inr.inj e
  simpa using this, fun K F v x r => by
  cases r
  rfl⟩
/-- tuples as keys -/
class TKeyOf {κ : Type} (ek : κ → D) (kk : κ → List Key) : Prop where
  inj : ∀ x y, kk x = kk y → x = y
  rep : ∀ (K : PySem.W.Frag) F v x, Rep K F v (ek x) → ∃ b, v = .ref b ∧ F b = some (.tup ((kk x).map kV))
section
variable {α β γ : Type} {ea : α → D} {eb : β → D} {ec : γ → D} {ka : α → Key} {kb : β → Key} {kc : γ → Key}
def kL (ka : α → Key) (xs : List α) : List Key := xs.map ka
def k2 (ka : α → Key) (kb : β → Key) (p : α × β) : List Key := [ka p.1, kb p.2]
def k3 (ka : α → Key) (kb : β → Key) (kc : γ → Key) (p : α × β × γ) : List Key := [ka p.1, kb p.2.1, kc p.2.2]
theorem reps_key [h : KeyOf ea ka] {K : PySem.W.Frag} {F : Hp} : ∀ {vs : List V} {xs : List α}, Reps K F vs (xs.map ea) → vs = (kL ka xs).map kV
  | [], [], _ => rfl
  | v :: vs, x :: xs, .cons r rs => by
    show v :: vs = kV (ka x) :: (kL ka xs).map kV
    rw [h.rep K F v x r, reps_key rs]
instance [h : KeyOf ea ka] : TKeyOf (eT ea) (kL ka) := ⟨fun x y e => by
  induction x generalizing y with
  | nil =>
    cases y with
    | nil => rfl
    | cons _ _ => cases e
  | cons a x ih =>
    cases y with
    | nil => cases e
    | cons b y =>
      have e' : ka a :: kL ka x = ka b :: kL ka y := e
      injection e' with e1 e2
      rw [h.inj a b e1, ih y e2], fun K F v x r => by
  generalize hd : eT ea x = d at r
  cases r with
  | tup hF rs hz =>
    cases hd
    exact ⟨_, rfl, by rw [hF, reps_key (h := h) rs]⟩
  | _ => cases hd⟩
instance [h : KeyOf ea ka] [h' : KeyOf eb kb] : TKeyOf (e2 ea eb) (k2 ka kb) := ⟨fun x y e => by
  obtain ⟨x1, x2⟩ := x
  obtain ⟨y1, y2⟩ := y
  have e' : [ka x1, kb x2] = [ka y1, kb y2] := e
  injection e' with e1 e2
  injection e2 with e2 _
  rw [h.inj _ _ e1, h'.inj _ _ e2], fun K F v x r => by
  generalize hd : e2 ea eb x = d at r
  cases r with
  | tup hF rs hz =>
    cases hd
    cases rs with
    | cons r1 rs =>
      cases rs with
      | cons r2 rs =>
        cases rs
        exact ⟨_, rfl, by rw [hF, h.rep _ _ _ _ r1, h'.rep _ _ _ _ r2]; rfl⟩
  | _ => cases hd⟩
instance [h : KeyOf ea ka] [h' : KeyOf eb kb] [h2 : KeyOf ec kc] : TKeyOf (e3 ea eb ec) (k3 ka kb kc) := ⟨fun x y e => by
  obtain ⟨x1, x2, x3⟩ := x
  obtain ⟨y1, y2, y3⟩ := y
  have e' : [ka x1, kb x2, kc x3] = [ka y1, kb y2, kc y3] := e
  injection e' with e1 e2
  injection e2 with e2 e3
  injection e3 with e3 _
  rw [h.inj _ _ e1, h'.inj _ _ e2, h2.inj _ _ e3], fun K F v x r => by
  generalize hd : e3 ea eb ec x = d at r
  cases r with
  | tup hF rs hz =>
    cases hd
    cases rs with
    | cons r1 rs =>
      cases rs with
      | cons r2 rs =>
        cases rs with
        | cons r3 rs =>
          cases rs
          exact ⟨_, rfl, by rw [hF, h.rep _ _ _ _ r1, h'.rep _ _ _ _ r2, h2.rep _ _ _ _ r3]; rfl⟩
  | _ => cases hd⟩
end
def eDK {κ β : Type} (kk : κ → Key) (ev : β → D) (kvs : List (κ × β)) : D := .dk (kvs.map fun p => (kk p.1, ev p.2))
def eDT {κ β : Type} (kk : κ → List Key) (ev : β → D) (kvs : List (κ × β)) : D := .dt (kvs.map fun p => (kk p.1, ev p.2))
/-- what a look-up finds -/
def Fnd {β : Type} (K : PySem.W.Frag) (F : Hp) (ev : β → D) : Option V → Option β → Prop
  | none, none => True
  | some v, some y => Rep K F v (ev y)
  | _, _ => False
/-- a kind of dicts -/
class DictE {κ β : Type} [DecidableEq κ] (eD : List (κ × β) → D) (ek : κ → D) (ev : β → D) : Prop where
  get : ∀ (K : PySem.W.Frag) (G : Gh) F H v u xs k, Sub F H → RepB K G F H v (eD xs) → Rep K F u (ek k) → ∃ a o, v = .ref a ∧ DGet H a u o ∧ IsD H a ∧ Fnd K F ev o (dGet xs k)
  isd : ∀ (K : PySem.W.Frag) (G : Gh) F H v xs, Sub F H → RepB K G F H v (eD xs) → ∃ a, v = .ref a ∧ IsD H a
  put : ∀ (K : PySem.W.Frag) F H a u w xs k y, Sub F H → OwnAt K F H a (eD xs) → Rep K F u (ek k) → Rep K F w (ev y) → xs.length < sizeLine → F a = none → ∃ o, DPut H a u w (upd H a o) ∧ OwnAt K F (upd H a o) a (eD (dPut xs k y))
section
variable {κ β : Type} [DecidableEq κ] {ek : κ → D} {ev : β → D} {kk : κ → Key} {kt : κ → List Key} {K : PySem.W.Frag} {F H : Hp}
theorem find_k [h : KeyOf ek kk] (k : κ) : ∀ {kvs : List (Key × V)} {xs : List (κ × β)}, RepK K F kvs (xs.map fun p => (kk p.1, ev p.2)) → Fnd K F ev (valV kvs (kk k)) (dGet xs k)
  | [], [], _ => trivial
  | _ :: _, p :: xs, .cons r rs => by
    rw [dGet_cons]
    by_cases e : p.1 = k
    · rw [if_pos e, valV_pos (by rw [e])]
      exact r
    · rw [if_neg e, valV_neg (fun z => e (h.inj _ _ z))]
      exact find_k k rs
theorem find_t [h : TKeyOf ek kt] (k : κ) : ∀ {kvs : List (List Key × V)} {xs : List (κ × β)}, RepT K F kvs (xs.map fun p => (kt p.1, ev p.2)) → Fnd K F ev (valV kvs (kt k)) (dGet xs k)
  | [], [], _ => trivial
  | _ :: _, p :: xs, .cons r rs => by
    rw [dGet_cons]
    by_cases e : p.1 = k
    · rw [if_pos e, valV_pos (by rw [e])]
      exact r
    · rw [if_neg e, valV_neg (fun z => e (h.inj _ _ z))]
      exact find_t k rs
theorem Fnd.isSome {o : Option V} {o' : Option β} (h : Fnd K F ev o o') : o.isSome = o'.isSome := by
  cases o <;> cases o' <;> first | rfl | exact h.elim
theorem RepK.len : ∀ {vs : List (Key × V)} {ds : List (Key × D)}, RepK K F vs ds → vs.length = ds.length
  | _, _, .nil => rfl
  | _, _, .cons _ r => congrArg (· + 1) (RepK.len r)
theorem RepT.len : ∀ {vs : List (List Key × V)} {ds : List (List Key × D)}, RepT K F vs ds → vs.length = ds.length
  | _, _, .nil => rfl
  | _, _, .cons _ r => congrArg (· + 1) (RepT.len r)
theorem RepK.app : ∀ {vs us : List (Key × V)} {ds es : List (Key × D)}, RepK K F vs ds → RepK K F us es → RepK K F (vs ++ us) (ds ++ es)
  | _, _, _, _, .nil, s => s
  | _, _, _, _, .cons h r, s => .cons h (RepK.app r s)
theorem RepT.app : ∀ {vs us : List (List Key × V)} {ds es : List (List Key × D)}, RepT K F vs ds → RepT K F us es → RepT K F (vs ++ us) (ds ++ es)
  | _, _, _, _, .nil, s => s
  | _, _, _, _, .cons h r, s => .cons h (RepT.app r s)
theorem repl_k [h : KeyOf ek kk] (k : κ) {w : V} {y : β} (rw' : Rep K F w (ev y)) : ∀ {kvs : List (Key × V)} {xs : List (κ × β)}, RepK K F kvs (xs.map fun p => (kk p.1, ev p.2)) →
    RepK K F (kvs.map fun kv => if kv.1 = kk k then (kv.1, w) else kv) ((xs.map fun p => if p.1 = k then (p.1, y) else p).map fun p => (kk p.1, ev p.2))
  | [], [], _ => .nil
  | _ :: _, p :: xs, .cons r rs => by
    rw [List.map_cons, List.map_cons, List.map_cons]
    by_cases e : p.1 = k
    · rw [if_pos (by rw [e]), if_pos e]
      exact .cons rw' (repl_k k rw' rs)
    · rw [if_neg (fun z => e (h.inj _ _ z)), if_neg e]
      exact .cons r (repl_k k rw' rs)
theorem repl_t [h : TKeyOf ek kt] (k : κ) {w : V} {y : β} (rw' : Rep K F w (ev y)) : ∀ {kvs : List (List Key × V)} {xs : List (κ × β)}, RepT K F kvs (xs.map fun p => (kt p.1, ev p.2)) →
    RepT K F (kvs.map fun kv => if kv.1 = kt k then (kv.1, w) else kv) ((xs.map fun p => if p.1 = k then (p.1, y) else p).map fun p => (kt p.1, ev p.2))
  | [], [], _ => .nil
  | _ :: _, p :: xs, .cons r rs => by
    rw [List.map_cons, List.map_cons, List.map_cons]
    by_cases e : p.1 = k
    · rw [if_pos (by rw [e]), if_pos e]
      exact .cons rw' (repl_t k rw' rs)
    · rw [if_neg (fun z => e (h.inj _ _ z)), if_neg e]
      exact .cons r (repl_t k rw' rs)
theorem put_k [h : KeyOf ek kk] (k : κ) {w : V} {y : β} (rw' : Rep K F w (ev y)) {kvs : List (Key × V)} {xs : List (κ × β)} (r : RepK K F kvs (xs.map fun p => (kk p.1, ev p.2))) :
    RepK K F (putK kvs (kk k) w) ((dPut xs k y).map fun p => (kk p.1, ev p.2)) := by
  have hf := find_k (h := h) (ev := ev) k r
  unfold dPut dHas
  unfold putK
  rw [valV_any, hf.isSome]
  split
  · exact repl_k (h := h) k rw' r
  · rw [List.map_append]
    exact r.app (.cons rw' .nil)
theorem put_t [h : TKeyOf ek kt] (k : κ) {w : V} {y : β} (rw' : Rep K F w (ev y)) {kvs : List (List Key × V)} {xs : List (κ × β)} (r : RepT K F kvs (xs.map fun p => (kt p.1, ev p.2))) :
    RepT K F (putK kvs (kt k) w) ((dPut xs k y).map fun p => (kt p.1, ev p.2)) := by
  have hf := find_t (h := h) (ev := ev) k r
  unfold dPut dHas
  unfold putK
  rw [valV_any, hf.isSome]
  split
  · exact repl_t (h := h) k rw' r
  · rw [List.map_append]
    exact r.app (.cons rw' .nil)
instance [h : KeyOf ek kk] : DictE (eDK kk ev) ek ev where
  get := fun K G F H v u xs k s rv ru => by
    have e := h.rep K F u k ru
    subst e
    rcases rv with rv | ⟨a, rfl, ⟨kvs, ha, rs, hz⟩, _⟩
    · generalize hd : eDK kk ev xs = d at rv
      cases rv with
      | dk hF rs hz =>
        cases hd
        exact ⟨_, _, rfl, DGet.k (s _ _ hF), .inl ⟨_, .inl (s _ _ hF)⟩, find_k (h := h) k rs⟩
      | _ => cases hd
    · exact ⟨a, _, rfl, DGet.k ha, .inl ⟨_, .inl ha⟩, find_k (h := h) k rs⟩
  isd := fun K G F H v xs s rv => by
    rcases rv with rv | ⟨a, rfl, ⟨kvs, ha, rs, hz⟩, _⟩
    · generalize hd : eDK kk ev xs = d at rv
      cases rv with
      | dk hF rs hz => exact ⟨_, rfl, .inl ⟨_, .inl (s _ _ hF)⟩⟩
      | _ => cases hd
    · exact ⟨a, rfl, .inl ⟨_, .inl ha⟩⟩
  put := fun K F H a u w xs k y s ow ru rw' hl hF => by
    have e := h.rep K F u k ru
    subst e
    obtain ⟨kvs, ha, rs, hz⟩ := ow
    have hkl : kvs.length = xs.length := by rw [rs.len, List.length_map]
    exact ⟨_, DPut.k ha (by rw [hkl]; exact hl), _, upd_same, put_k (h := h) k rw' rs, by rw [List.length_map]; exact Nat.le_trans (dPut_len xs k y) hl⟩
instance [h : TKeyOf ek kt] : DictE (eDT kt ev) ek ev where
  get := fun K G F H v u xs k s rv ru => by
    obtain ⟨b, rfl, hb⟩ := h.rep K F u k ru
    rcases rv with rv | ⟨a, rfl, ⟨kvs, ha, rs, hz⟩, _⟩
    · generalize hd : eDT kt ev xs = d at rv
      cases rv with
      | dt hF rs hz =>
        cases hd
        exact ⟨_, _, rfl, DGet.t (s _ _ hF) (s _ _ hb), .inr ⟨_, .inl (s _ _ hF)⟩, find_t (h := h) k rs⟩
      | _ => cases hd
    · exact ⟨a, _, rfl, DGet.t ha (s _ _ hb), .inr ⟨_, .inl ha⟩, find_t (h := h) k rs⟩
  isd := fun K G F H v xs s rv => by
    rcases rv with rv | ⟨a, rfl, ⟨kvs, ha, rs, hz⟩, _⟩
    · generalize hd : eDT kt ev xs = d at rv
      cases rv with
      | dt hF rs hz => exact ⟨_, rfl, .inr ⟨_, .inl (s _ _ hF)⟩⟩
      | _ => cases hd
    · exact ⟨a, rfl, .inr ⟨_, .inl ha⟩⟩
  put := fun K F H a u w xs k y s ow ru rw' hl hF => by
    obtain ⟨b, rfl, hb⟩ := h.rep K F u k ru
    obtain ⟨kvs, ha, rs, hz⟩ := ow
    have hkl : kvs.length = xs.length := by rw [rs.len, List.length_map]
    exact ⟨_, DPut.t ha (s _ _ hb) (by rw [hkl]; exact hl), _, upd_same, put_t (h := h) k rw' rs, by rw [List.length_map]; exact Nat.le_trans (dPut_len xs k y) hl⟩
end
section
variable {X : Cx} {G : Gh} {ρ : List Sl} {κ α β γ : Type} [DecidableEq κ] {R S B : Type} {eR : R → D} {eS' : S → List Sl} {eB : B → List Sl} {a b c e : Expr} {rest : List Stmt} {wd : W (List (κ × β))} {wk : W κ} {wb : W β} {eD : List (κ × β) → D} {ek : κ → D} {ev : β → D} {k n m : Nat} {pos p apos cpos np : Pos} {N : List Str} {sc : Scope} {i : Nat} {x : Str}
theorem DA_units (g : Gd X k) : X.A.units + 1 < cLine := by
  have := g.room.units
  omega
/-- d[k] -/
theorem de_getD [h : DictE eD ek ev] (g : Gd X k) (ha : DB X G ρ a wd eD) (hb : DE X G ρ b wk ek) (hs : NoSl b := by exact fun _ _ => rfl) : DE X G ρ (.Subscript a b pos) (bnd wd fun d => bnd wk fun x => lft (dGet d x)) ev :=
  ⟨mono_bnd ha.mono fun _ => mono_bnd hb.mono fun _ => mono_lft _, fun σ F H Q st q => PE_.b (pe_dget (DA_units g) pe_b pe_b hs) (ha.run σ F H _ st (ha.mono _ _ (fun d q v F1 H1 st1 l1 rv => hb.run σ F1 H1 _ st1 (hb.mono _ _ (fun x q u F2 H2 st2 l2 ru => by
    obtain ⟨ad, o, rfl, hg, _, hf⟩ := h.get X.K G F2 H2 v u d x st2.sub (rv.mono l2) ru
    obtain ⟨y, hy, q⟩ := q
    rw [hy] at hf
    cases o with
    | none => exact hf.elim
    | some w => exact ⟨ad, w, rfl, hg, q w F2 H2 st2 (l1.trans l2) hf⟩) q)) q))⟩
theorem dc_inD [h : DictE eD ek ev] (g : Gd X k) (hb : DE X G ρ b wk ek) (ha : DB X G ρ a wd eD) : DC X G ρ .In b a (bnd wk fun x => bnd wd fun d => ret (dHas d x)) D.bl :=
  ⟨mono_bnd hb.mono fun _ => mono_bnd ha.mono fun _ => mono_ret _, fun σ F H Q st q => PC_.r (pc_din (DA_units g) pe_b pe_b) (hb.run σ F H _ st (hb.mono _ _ (fun x q u F1 H1 st1 l1 ru => ha.run σ F1 H1 _ st1 (ha.mono _ _ (fun d q v F2 H2 st2 l2 rv => by
    obtain ⟨ad, o, rfl, hg, _, hf⟩ := h.get X.K G F2 H2 v u d x st2.sub rv (ru.mono l2.f)
    refine ⟨ad, o, rfl, hg, q _ F2 H2 st2 (l1.trans l2) ?_⟩
    rw [hf.isSome]
    exact .bl _) q)) q))⟩
theorem dc_notInD [h : DictE eD ek ev] (g : Gd X k) (hb : DE X G ρ b wk ek) (ha : DB X G ρ a wd eD) : DC X G ρ .NotIn b a (bnd wk fun x => bnd wd fun d => ret (!dHas d x)) D.bl :=
  ⟨mono_bnd hb.mono fun _ => mono_bnd ha.mono fun _ => mono_ret _, fun σ F H Q st q => PC_.r (pc_dnotin (DA_units g) pe_b pe_b) (hb.run σ F H _ st (hb.mono _ _ (fun x q u F1 H1 st1 l1 ru => ha.run σ F1 H1 _ st1 (ha.mono _ _ (fun d q v F2 H2 st2 l2 rv => by
    obtain ⟨ad, o, rfl, hg, _, hf⟩ := h.get X.K G F2 H2 v u d x st2.sub rv (ru.mono l2.f)
    refine ⟨ad, o, rfl, hg, q _ F2 H2 st2 (l1.trans l2) ?_⟩
    rw [hf.isSome]
    exact .bl _) q)) q))⟩
/-- d.get(k, x) -/
theorem de_get2D [h : DictE eD ek ev] (g : Gd X k) (ha : DB X G ρ a wd eD) (hb : DE X G ρ b wk ek) (hc : DE X G ρ c wb ev) (m : M2 X a "get" apos b c cpos) : DE X G ρ (.Call (.Attribute a "get" apos) [b, c] [] cpos) (bnd wd fun d => bnd wk fun x => bnd wb fun y => ret ((dGet d x).getD y)) ev :=
  ⟨mono_bnd ha.mono fun _ => mono_bnd hb.mono fun _ => mono_bnd hc.mono fun _ => mono_ret _, fun σ F H Q st q => PE_.b (pe_dget2 (DA_units g) pe_b pe_b pe_b m) (ha.run σ F H _ st (ha.mono _ _ (fun d q v F1 H1 st1 l1 rv => by
    obtain ⟨ad, rfl, hd⟩ := h.isd X.K G F1 H1 v d st1.sub rv
    refine ⟨ad, rfl, hd, hb.run σ F1 H1 _ st1 (hb.mono _ _ (fun x q u F2 H2 st2 l2 ru => hc.run σ F2 H2 _ st2 (hc.mono _ _ (fun y q z F3 H3 st3 l3 rz => ?_) q)) q)⟩
    obtain ⟨ad', o, e, hg, _, hf⟩ := h.get X.K G F3 H3 _ u d x st3.sub (rv.mono (l2.trans l3)) (ru.mono l3.f)
    cases e
    refine ⟨o, hg, q _ F3 H3 st3 ((l1.trans l2).trans l3) ?_⟩
    cases o with
    | none =>
      cases hx : dGet d x with
      | none => exact rz
      | some y => rw [hx] at hf; exact hf.elim
    | some w =>
      cases hx : dGet d x with
      | none => rw [hx] at hf; exact hf.elim
      | some y => rw [hx] at hf; exact hf) q))⟩
/-- x[k] = e -/
def wPut {κ β : Type} [DecidableEq κ] (d : List (κ × β)) (k : κ) (v : β) : W (List (κ × β)) := grd (d.length < sizeLine) (ret (dPut d k v))
theorem ds_put [h : DictE eD ek ev] {kvs : List (κ × β)} {wr : List (κ × β) → W (Fl R S B)} (g : Gd X k) (hs : Sc X N sc) (hN : N[i]? = some x) (hv : Vis sc x) (hρ : ρ[i]? = some (.ow (eD kvs))) (he : DE X G ρ e wb ev) (hi : DE X G ρ b wk ek) (hr : ∀ ys, DS X G (ρ.set i (.ow (eD ys))) rest eR eS' eB (wr ys))
    (hd : (x == ("__debug__" : Str)) = false := by decide) (hcd : (x == ("__classdict__" : Str)) = false := by decide)
    (hsw : swapsWith e (some (.Subscript (.Name x np) b p)) pos.line X.env = pure false := by rfl) :
    DS X G ρ (.Assign [.Subscript (.Name x np) b p] e pos :: rest) eR eS' eB (bnd wb fun y => bnd wk fun j => bnd (wPut kvs j y) wr) :=
  ⟨mono_bnd he.mono fun y => mono_bnd hi.mono fun j => mono_bnd (mono_grd (mono_ret _)) fun ys => (hr ys).mono, fun σ F H Dn st q => PSs_.b (pss_cons (ps_dput (DA_units g) (pe_var (i := i) (by rw [hs.N]; exact hN) (by rw [hs.s]; exact hv) hd hcd) pe_b pe_b hsw) pss_b) (he.run σ F H _ st (he.mono _ _ (fun y q v F' H' st' l r => by
    obtain ⟨_, h1, ad, rfl, ow, hF, h0, hb⟩ := st'.sl i _ hρ
    refine ⟨_, h1, hi.run σ F' H' _ st' (hi.mono _ _ (fun j q u F2 H2 st2 l2 r2 => ?_) q)⟩
    obtain ⟨_, h1', ad', e', ow', hF', _, _⟩ := st2.sl i _ hρ
    rw [h1] at h1'
    cases h1'
    cases e'
    obtain ⟨hlt, q⟩ := q
    obtain ⟨o, hp, ow2⟩ := h.put X.K F2 H2 _ u v kvs j y st2.sub ow' r2 (r.mono l2.f) hlt hF'
    refine ⟨_, _, rfl, hp, ?_⟩
    have st3 := st2.updO (o := o) (d' := eD (dPut kvs j y)) hρ h1 ow2
    exact (hr _).run σ F2 _ Dn st3 ((hr _).mono _ _ (fun o => Post.mono (l.f.trans l2.f)) q)) q))⟩
/-- {} -/
theorem dl_newK {κ : Type} {kk : κ → Key} : DL X G ρ (.Dict [] [] pos) (ret []) (eDK kk ev) :=
  ⟨mono_ret _, fun σ F H Q st q => PE_.b pe_dnewK fun p hp => by
    have z := st.laid (o := .dK []) hp
    exact q p F _ z.1 z.2 hp (st.hn hp).2.2 ⟨[], upd_same, .nil, Nat.zero_le _⟩⟩
theorem dl_newT {κ : Type} {kt : κ → List Key} : DL X G ρ (.Dict [] [] pos) (ret []) (eDT kt ev) :=
  ⟨mono_ret _, fun σ F H Q st q => PE_.b pe_dnewT fun p hp => by
    have z := st.laid (o := .dT []) hp
    exact q p F _ z.1 z.2 hp (st.hn hp).2.2 ⟨[], upd_same, .nil, Nat.zero_le _⟩⟩
/-! ### {k: v, ..} -/
def dMerge (xs : List (κ × β)) : List (κ × β) := xs.foldl (fun acc p => dPut acc p.1 p.2) []
theorem merge_k {kk : κ → Key} [h : KeyOf ek kk] {K : PySem.W.Frag} {F : Hp} : ∀ {more : List (Key × V)} {xs : List (κ × β)} {kvs : List (Key × V)} {ys : List (κ × β)}, RepK K F more (xs.map fun p => (kk p.1, ev p.2)) → RepK K F kvs (ys.map fun p => (kk p.1, ev p.2)) →
    RepK K F (mergeK kvs more) ((xs.foldl (fun acc p => dPut acc p.1 p.2) ys).map fun p => (kk p.1, ev p.2))
  | [], [], _, _, _, r => r
  | _ :: _, p :: xs, _, _, .cons rv rs, r => by
    have z := merge_k rs (put_k (h := h) p.1 rv r)
    exact z
theorem dMerge_len (xs : List (κ × β)) : (dMerge xs).length ≤ xs.length := by
  have go : ∀ (xs ys : List (κ × β)), (xs.foldl (fun acc p => dPut acc p.1 p.2) ys).length ≤ ys.length + xs.length := by
    intro xs
    induction xs with
    | nil => exact fun ys => Nat.le_refl _
    | cons p xs ih =>
      intro ys
      have := ih (dPut ys p.1 p.2)
      have := dPut_len ys p.1 p.2
      rw [List.foldl_cons, List.length_cons]
      omega
  have := go xs []
  simpa [dMerge] using this
/-- pairs with plain keys -/
structure DPp (X : Cx) (G : Gh) (ρ : List Sl) (pos : Pos) (keys : List (Option Expr)) (values : List Expr) (w : W (List (κ × β))) (kk : κ → Key) (ev : β → D) : Prop where
  mono : Mono w
  run : ∃ trs, PPs X pos keys values trs ∧ ∀ σ F H Q, Sta X.K G ρ σ F H → w (fun xs => ∀ kvs F' H', Sta X.K G ρ σ F' H' → Le G F H F' H' → RepK X.K F' kvs (xs.map fun p => (kk p.1, ev p.2)) → xs.length = keys.length → Q (kvs.map fun kv => (kV kv.1, kv.2)) H') → tPairs trs σ H Q
theorem dpp_nil {kk : κ → Key} : DPp X G ρ pos [] [] (ret []) kk ev := ⟨mono_ret _, [], pps_nil, fun σ F H Q st q => q [] F H st (Le.refl _ _ _) .nil rfl⟩
theorem RepK.mono' {K : PySem.W.Frag} {F F' : Hp} (e : Sub F F') {vs : List (Key × V)} {ds : List (Key × D)} (h : RepK K F vs ds) : RepK K F' vs ds := RepK.mono e h
theorem dpp_cons {kk : κ → Key} [h : KeyOf ek kk] {ks : List (Option Expr)} {vs : List Expr} {wr : W (List (κ × β))} (ha : DE X G ρ a wk ek) (hb : DE X G ρ b wb ev) (hr : DPp X G ρ pos ks vs wr kk ev) : DPp X G ρ pos (some a :: ks) (b :: vs) (bnd wk fun x => bnd wb fun y => bnd wr fun r => ret ((x, y) :: r)) kk ev := by
  obtain ⟨trs, hp, hrun⟩ := hr.run
  refine ⟨mono_bnd ha.mono fun _ => mono_bnd hb.mono fun _ => mono_bnd hr.mono fun _ => mono_ret _, _, pps_cons pe_b pe_b hp, fun σ F H Q st q => ?_⟩
  exact ha.run σ F H _ st (ha.mono _ _ (fun x q u F1 H1 st1 l1 ru => hb.run σ F1 H1 _ st1 (hb.mono _ _ (fun y q v F2 H2 st2 l2 rv => hrun σ F2 H2 _ st2 (hr.mono _ _ (fun r q kvs F3 H3 st3 l3 rs hl => by
    have e := h.rep X.K F1 u x ru
    subst e
    exact q ((kk x, v) :: kvs) F3 H3 st3 ((l1.trans l2).trans l3) (.cons (rv.mono l3.f) rs) (congrArg (· + 1) hl)) q)) q)) q)
theorem dl_disp {kk : κ → Key} [h : KeyOf ek kk] {ks : List (Option Expr)} {vs : List Expr} {wr : W (List (κ × β))} (hr : DPp X G ρ pos ks vs wr kk ev) (hall : ks.all (·.isSome) = true := by rfl) (hl : ks.length = vs.length := by rfl) (h0 : ks ≠ [] := by exact fun z => nomatch z) (h15 : ks.length ≤ 15 := by decide) :
    DL X G ρ (.Dict ks vs pos) (bnd wr fun xs => ret (dMerge xs)) (eDK kk ev) := by
  obtain ⟨trs, hp, hrun⟩ := hr.run
  refine ⟨mono_bnd hr.mono fun _ => mono_ret _, fun σ F H Q st q => PE_.b (pe_disp hp hall hl h0 h15) fun p hp => ?_⟩
  have z := st.laid (o := .dK []) hp
  refine hrun σ F _ _ z.1 (hr.mono _ _ (fun xs q kvs F2 H2 st2 l2 rs hn => ?_) q)
  have hb : G.bx ≠ some p := (st.hn hp).2.1
  have hp2 : H2 p = some (.dK []) := l2.h p _ upd_same hb
  have hF : F2 p = none := by
    cases e : F2 p with
    | none => rfl
    | some u =>
      rcases l2.n p u e with y | y
      · rw [(st.hn hp).2.2] at y; cases y
      · rw [upd_same] at y; cases y
  have hns : ∀ (j : Nat) d, ρ[j]? = some (.ow d) → σ[j]? = some (some (V.ref p)) → False := fun j d e1 e2 => by
    obtain ⟨x, h1, b, h2, ow, _⟩ := st.sl j _ e1
    rw [h1, h2] at e2
    cases e2
    obtain ⟨u, hu⟩ := ow.some
    rw [hp] at hu
    cases hu
  have st3 := st2.updU (o := .dK (mergeK [] kvs)) hp2 hF (st.hn hp).1 hb hns
  have hlen : (dMerge xs).length ≤ sizeLine := by
    have h1 := dMerge_len xs
    have h2 : 15 ≤ sizeLine := by decide
    omega
  refine ⟨hp2, kvs, rfl, by rw [rs.len, List.length_map]; omega, q p F2 _ st3 ⟨l2.f, fun a o e n => ?_, fun a o e => ?_, fun c e n => ?_⟩ hp hF ⟨_, upd_same, merge_k (h := h) rs .nil, by rw [List.length_map]; exact hlen⟩⟩
  · have na : a ≠ p := fun z => by subst z; rw [hp] at e; cases e
    rw [upd_ne na]
    exact l2.h a o (by rw [upd_ne na]; exact e) n
  · rcases l2.n a o e with y | y
    · exact .inl y
    · by_cases na : a = p
      · subst na; exact .inr hp
      · rw [upd_ne na] at y; exact .inr y
  · have na : c ≠ p := fun z => hb (by rw [e, z])
    rw [upd_ne na]
    exact l2.b c e (by rw [upd_ne na]; exact n)
end
end Dt
/-! Dt12: data of any kind, the law's own comparing, draws and picks. -/
namespace Dt
open PySem PySem.Spec PyProof.Rows L2
def eD : D → D := fun d => d
def tyD : D → String
  | .non => "NoneType" | .bl _ => "bool" | .int _ => "int" | .str _ => "str" | .lst _ => "list" | .tup _ => "tuple"
  | .dk _ => "dict" | .dt _ => "dict" | .scr _ => "list" | .kt _ => "tuple"
def nk : D → Bool
  | .scr _ => false | .kt _ => false | _ => true
def isNon : D → Bool
  | .non => true | _ => false
def isBlD (b : Bool) : D → Bool
  | .bl c => b == c | _ => false
instance : EncP D.str 0 := ⟨fun _ => rfl, fun _ => Nat.le_refl _⟩
instance : EncEq D.str := ⟨fun x y => by
  show (x == y) = _
  rw [Bool.beq_eq_decide_eq]⟩
section
variable {X : Cx} {G : Gh} {ρ : List Sl} {α β γ : Type} {T : TE} {e a b c : Expr} {wa wb : W D} {k n : Nat} {p pos : Pos} {F H : Hp} {v : V} {d : D}
theorem repB_non (r : RepB X.K G F H v d) : decide (v = .non) = isNon d := by
  rcases r with r | ⟨q, rfl, o, _⟩
  · cases r <;> first | rfl | (apply decide_eq_false; intro z; cases z)
  · cases d <;> first | exact o.elim | (apply decide_eq_false; intro z; cases z)
theorem repB_bl (r : RepB X.K G F H v d) (t : Bool) : decide (v = .bl t) = isBlD t d := by
  rcases r with r | ⟨q, rfl, o, _⟩
  · cases r with
    | bl c => cases t <;> cases c <;> rfl
    | _ => first | rfl | (apply decide_eq_false; intro z; cases z)
  · cases d <;> first | exact o.elim | (apply decide_eq_false; intro z; cases z)
theorem repB_ty (s : Sub F H) (r : RepB X.K G F H v d) (h : nk d = true) : TyX X.K H v (.type (tyD d)) := by
  rcases r with r | ⟨q, rfl, o, _⟩
  · cases r with
    | non => exact .base .non
    | bl c => exact .base (.bl c)
    | int i => exact .base (.int i)
    | str x => exact .base (.str x)
    | lst e => exact .base (.lst (s _ _ e))
    | tup e => exact .base (.tup (s _ _ e))
    | dk e => exact .base (.dK (s _ _ e))
    | dt e => exact .base (.dT (s _ _ e))
    | kt => cases h
    | scr => cases h
  · cases d with
    | lst ds => obtain ⟨_, e, _⟩ := o; exact .base (.lst e)
    | dk ds => obtain ⟨_, e, _⟩ := o; exact .base (.dK e)
    | dt ds => obtain ⟨_, e, _⟩ := o; exact .base (.dT e)
    | _ => exact o.elim
theorem op_isB : OpR X (compareOp .Is) (fun x y H Q => ∃ t, y = .bl t ∧ Q (.bl (decide (x = .bl t))) H) := by
  intro pins s σ H x y v u Q I rx ry h
  obtain ⟨t, rfl, q⟩ := h
  cases (show u = Value.bool t from ry)
  have go : ∀ w : Value, v = w → plainIs w (.bool t) = true → (w ≠ .bool t) → decide (x = .bl t) = false → wpAny (model X.prog X.w) X.A (compareOp .Is v (.bool t)) (EP X pins σ Q) X.xe s := fun w e h1 h2 h3 => by
    subst e
    exact wpAny_is_other h1 h2 ⟨.bl false, H, I, rfl, by rw [h3] at q; exact q⟩
  cases x with
  | bl c =>
    cases (show v = Value.bool c from rx)
    by_cases e : c = t
    · subst e
      exact wpAny_is_self rfl ⟨.bl true, H, I, rfl, by simpa using q⟩
    · exact wpAny_is_other rfl (fun z => e (Value.bool.inj z)) ⟨.bl false, H, I, rfl, by simpa [e] using q⟩
  | non => exact go _ (show v = Value.none from rx) rfl (fun z => nomatch z) (by simp)
  | int i => obtain ⟨w, rfl⟩ := rx; exact go _ rfl rfl (fun z => nomatch z) (by simp)
  | str i => obtain ⟨w, rfl⟩ := rx; exact go _ rfl rfl (fun z => nomatch z) (by simp)
  | byt i => obtain ⟨w, rfl⟩ := rx; exact go _ rfl rfl (fun z => nomatch z) (by simp)
  | flt i => obtain ⟨w, rfl⟩ := rx; exact go _ rfl rfl (fun z => nomatch z) (by simp)
  | ref i => exact go _ (show v = Value.ref i from rx) rfl (fun z => nomatch z) (by simp)
  | ty i => exact go _ (show v = Value.type i from rx) rfl (fun z => nomatch z) (by simp)
theorem dv_isN {j pos'} (ha : DB X G ρ a wa eD) : DC X G ρ .Is a (.Constant .none j pos') (bnd wa fun x => ret (isNon x)) D.bl :=
  ⟨mono_bnd ha.mono fun _ => mono_ret _, fun σ F H Q st q => PC_.r (pc_isN pe_b) (ha.run σ F H _ st (ha.mono _ _ (fun x q v F' H' st' l r => by
    rw [repB_non r]
    exact q _ F' H' st' l (.bl _)) q))⟩
theorem dv_isB {t : Bool} {j pos'} (ha : DB X G ρ a wa eD) : DC X G ρ .Is a (.Constant (.bool t) j pos') (bnd wa fun x => ret (isBlD t x)) D.bl :=
  ⟨mono_bnd ha.mono fun _ => mono_ret _, fun σ F H Q st q => op2_cmp op_isB σ H Q (ha.run σ F H _ st (ha.mono _ _ (fun x q v F' H' st' l r => PE_.b pe_bl ⟨t, rfl, by
    rw [repB_bl r]
    exact q _ F' H' st' l (.bl _)⟩) q))⟩
def wIsi (f : String → Bool) (d : D) : W Bool := grd (nk d = true) (ret (f (tyD d)))
def tysD : List String := ["NoneType", "bool", "int", "str", "list", "tuple", "dict"]
theorem tyD_mem (d : D) : tyD d ∈ tysD := by cases d <;> simp [tyD, tysD]
theorem dv_isi {x : Str} {T : String} {f : String → Bool} {p2 : Pos} (hm : X.mg "isinstance" = none) (hg : Gl X "isinstance") (hm2 : X.mg x = none) (hg2 : Gl X x) (ha : DB X G ρ a wa eD)
    (hv : bootBuiltins x = some (.type T)) (hf : ∀ t ∈ tysD, kitB t T = some (f t)) (hn : x ≠ "__name__" := by decide) (hdb : (x == ("__debug__" : Str)) = false := by decide)
    (he : starEach [a, .Name x p2] X.env = (false, eval a X.env) :: starEach [.Name x p2] X.env := by rfl) :
    DE X G ρ (.Call (.Name "isinstance" p) [a, .Name x p2] [] pos) (bnd wa (wIsi f)) D.bl :=
  ⟨mono_bnd ha.mono fun _ => mono_grd (mono_ret _), fun σ F H Q st q => PE_.b (pe_callB (r := rIsi X.K) call_isi hg hm (by decide +kernel) (pa_cons pe_b (pa_cons (pe_bltn (v := .ty T) hg2 hm2 hv rfl hn hdb) pa_nil (by rfl)) he) (by decide) (by decide) he (by rfl)) (ha.run σ F H _ st (ha.mono _ _ (fun d q v F' H' st' l r => by
    obtain ⟨h1, q⟩ := q
    exact ⟨v, .ty T, _, _, _, rfl, .ty T, repB_ty st'.sub r h1, kit_ty (hf _ (tyD_mem d)), q _ F' H' st' l (.bl _)⟩) q))⟩
def wRepr : D → W Str
  | .int i => grd (i.natAbs.log2 < 1920) (ret (Str.ofString (toString i)))
  | .str s => grd ((reprText s).length ≤ sizeLine) (ret (reprText s))
  | _ => fun _ => False
theorem mono_wRepr (d : D) : Mono (wRepr d) := by
  cases d <;> first | exact mono_grd (mono_ret _) | exact fun _ _ _ h => h
theorem call_repr : CallR X (.builtin "repr") (fun xs H Q => (∃ i, xs = [.int i] ∧ i.natAbs.log2 < 1920 ∧ Q (.str (toString i)) H) ∨ ∃ s, xs = [.str s] ∧ (reprText s).length ≤ sizeLine ∧ Q (.str (reprText s)) H) := by
  intro pins s σ H xs us Q I r h
  rcases h with ⟨i, rfl, hz, q⟩ | ⟨x, rfl, hz, q⟩
  · obtain ⟨u, rfl, t, rfl⟩ := vals1 r
    exact PySem.P.repr_of_int hz ⟨.str _, H, I.tok _, ⟨_, rfl⟩, q⟩
  · obtain ⟨u, rfl, t, rfl⟩ := vals1 r
    exact PySem.P.repr_of_str ⟨.str _, H, I.tok _, ⟨_, rfl⟩, q⟩ hz
theorem dv_repr (hm : X.mg "repr" = none) (hg : Gl X "repr") (ha : DB X G ρ a wa eD)
    (he : starEach [a] X.env = (false, eval a X.env) :: starEach [] X.env := by rfl) : DE X G ρ (.Call (.Name "repr" p) [a] [] pos) (bnd wa wRepr) D.str :=
  de_op1 (op1_fn call_repr hg hm (by decide +kernel) (by decide) (by decide) he) ha mono_wRepr fun F H v d Q s rv q => by
    cases d with
    | int i =>
      obtain rfl := rv.int
      exact .inl ⟨i, rfl, q.1, q.2 _ (.str _ (int_text_fits q.1))⟩
    | str x =>
      rcases rv with rv | ⟨_, _, o, _⟩
      · cases rv
        exact .inr ⟨x, rfl, q.1, q.2 _ (.str _ q.1)⟩
      · exact o.elim
    | _ => exact q.elim
def partsD : D → Option (List D)
  | .lst ds => some ds | .tup ds => some ds | _ => none
theorem repB_parts {ds : List D} (s : Sub F H) (r : RepB X.K G F H v d) (h : partsD d = some ds) : ∃ p vs, v = .ref p ∧ Reps X.K F vs ds ∧ (H p = some (.lst vs) ∨ H p = some (.tup vs)) := by
  cases d with
  | lst ds' =>
    cases h
    rcases r with r | ⟨q, rfl, ⟨vs, o1, o2, _⟩, _⟩
    · cases r with
      | lst e rs => exact ⟨_, _, rfl, rs, .inl (s _ _ e)⟩
    · exact ⟨_, _, rfl, o2, .inl o1⟩
  | tup ds' =>
    cases h
    rcases r with r | ⟨_, _, o, _⟩
    · cases r with
      | tup e rs => exact ⟨_, _, rfl, rs, .inr (s _ _ e)⟩
    · exact o.elim
  | _ => cases h
def wLenD (d : D) : W Int := bnd (lft (partsD d)) fun ds => ret (ds.length : Int)
def wIxD (d : D) (i : Int) : W D := bnd (lft (partsD d)) fun ds => wIx ds i
theorem dv_len (hm : X.mg "len" = none) (hg : Gl X "len") (ha : DB X G ρ a wa eD) (he : starEach [a] X.env = (false, eval a X.env) :: starEach [] X.env := by rfl) : DE X G ρ (.Call (.Name "len" p) [a] [] pos) (bnd wa wLenD) D.int :=
  de_op1 (op1_fn call_len_seq hg hm PySem.boot_len (by decide) (by decide) he) ha (fun _ => mono_bnd (mono_lft _) fun _ => mono_ret _) fun F H v x Q s rv q => by
    obtain ⟨ds, hd, q⟩ := q
    obtain ⟨p, vs, rfl, rs, h⟩ := repB_parts s rv hd
    refine ⟨p, vs, rfl, ?_, q _ (by rw [rs.len]; exact .int _)⟩
    rcases h with h | h
    · exact .inl (SqL.of h)
    · exact .inr (SqT.of h)
theorem ix_or {r1 r2 : R2} (h1 : IxR X r1) (h2 : IxR X r2) : IxR X (fun x y H Q => r1 x y H Q ∨ r2 x y H Q) := fun value slice pins s σ H x y v u Q I rx ry h hs => by
  rcases h with h | h
  · exact h1 value slice pins s σ H x y v u Q I rx ry h hs
  · exact h2 value slice pins s σ H x y v u Q I rx ry h hs
theorem dv_ix {wi : W Int} (ha : DB X G ρ a wa eD) (hb : DB X G ρ b wi D.int) (hs : PlainIx b := by exact fun _ _ => rfl) : DE X G ρ (.Subscript a b pos) (bnd wa fun x => bnd wi fun i => wIxD x i) eD :=
  de_op2 (op2_ix (ix_or ix_list ix_tup) hs) ha hb (fun _ _ => mono_bnd (mono_lft _) fun _ => mono_lft _) fun F H v u x y Q s rv ru q => by
    obtain ⟨ds, hd, e, he, q⟩ := q
    obtain ⟨p, vs, rfl, rs, h⟩ := repB_parts s rv hd
    obtain rfl := ru.int
    obtain ⟨v', h1, h2⟩ := atI_rep (ea := eD) (xs := ds) (by rw [show ds.map eD = ds from List.map_id ds]; exact rs) he
    rcases h with h | h
    · exact .inl ⟨p, vs, y, v', rfl, rfl, SqL.of h, h1, q _ h2⟩
    · exact .inr ⟨p, vs, y, v', rfl, rfl, SqT.of h, h1, q _ h2⟩
end
/-! ### the law's own comparing -/
def b_same (w_law_same : D → D → W Bool) (a_told a_due : D) : W (Fl Bool Empty Empty) :=
  bnd (bnd (ret a_due) fun x1 => ret (isNon x1)) fun t2 => if t2 then bnd (bnd (bnd (ret a_told) fun x3 => ret (isNon x3)) fun r4 => ret (.rt r4)) lv else (bnd (bnd (ret a_due) fun x5 => ret (isBlD true x5)) fun t6 => if t6 then bnd (bnd (bnd (ret a_told) fun x7 => ret (isBlD true x7)) fun r8 => ret (.rt r8)) lv else (bnd (bnd (ret a_due) fun x9 => ret (isBlD false x9)) fun t10 => if t10 then bnd (bnd (bnd (ret a_told) fun x11 => ret (isBlD false x11)) fun r12 => ret (.rt r12)) lv else (bnd (bnd (ret a_due) (wIsi (fun t => t == "str"))) fun t13 => if t13 then bnd (bnd (wAnd (bnd (ret a_told) (wIsi (fun t => t == "str"))) (bnd (bnd (ret a_told) wRepr) fun x14 => bnd (bnd (ret a_due) wRepr) fun y15 => ret (decide (x14 = y15)))) fun r16 => ret (.rt r16)) lv else (bnd (bnd (ret a_due) (wIsi (fun t => t == "int" || t == "bool"))) fun t17 => if t17 then bnd (bnd (wAnd (bnd (ret a_told) (wIsi (fun t => t == "int" || t == "bool"))) (wAnd (bnd (bnd (ret a_told) (wIsi (fun t => t == "bool"))) fun x18 => ret (!x18)) (bnd (bnd (ret a_told) wRepr) fun x19 => bnd (bnd (ret a_due) wRepr) fun y20 => ret (decide (x19 = y20))))) fun r21 => ret (.rt r21)) lv else (bnd (wOr (wAnd (bnd (ret a_due) (wIsi (fun t => t == "tuple"))) (bnd (bnd (ret a_told) (wIsi (fun t => t == "tuple"))) fun x22 => ret (!x22))) (wAnd (bnd (ret a_due) (wIsi (fun t => t == "list"))) (bnd (bnd (ret a_told) (wIsi (fun t => t == "list"))) fun x23 => ret (!x23)))) fun t24 => if t24 then bnd (bnd (ret false) fun r25 => ret (.rt r25)) lv else (bnd (bnd (bnd (ret a_told) wLenD) fun x28 => bnd (bnd (ret a_due) wLenD) fun y29 => ret (!decide (x28 = y29))) fun t30 => if t30 then bnd (bnd (ret false) fun r31 => ret (.rt r31)) lv else (bnd (bnd (bnd (ret a_due) wLenD) fun x33 => wRng 0 x33) fun xs51 => bnd (frW (fun (s34 : Unit) x35 => bnd (bnd (bnd (bnd (ret a_told) fun x40 => bnd (ret x35) fun i41 => wIxD x40 i41) fun q44 => bnd (bnd (ret a_due) fun x42 => bnd (ret x35) fun i43 => wIxD x42 i43) fun q45 => cl (w_law_same q44 q45)) fun x46 => ret (!x46)) fun t47 => if t47 then bnd (bnd (ret false) fun r48 => ret (.rt r48)) lv else (ret (.nx ()))) xs51 ()) (thnL fun (s49 : Unit) => bnd (ret true) fun r50 => ret (.rt r50)))))))))
theorem ap_bnd {α β : Type} (w : W α) (f : α → W β) (Φ : β → Prop) : bnd w f Φ = w fun x => f x Φ := rfl
theorem ap_ret {α : Type} (x : α) (Φ : α → Prop) : ret x Φ = Φ x := rfl
theorem ap_grd {α : Type} (p : Prop) (w : W α) (Φ : α → Prop) : grd p w Φ = (p ∧ w Φ) := rfl
theorem ap_and (w u : W Bool) (Φ : Bool → Prop) : wAnd w u Φ = w fun x => if x then u Φ else Φ false := by
  show (w fun x => (if x then u else ret false) Φ) = _
  congr 1
  funext x
  cases x <;> rfl
theorem ap_or (w u : W Bool) (Φ : Bool → Prop) : wOr w u Φ = w fun x => if x then Φ true else u Φ := by
  show (w fun x => (if x then ret true else u) Φ) = _
  congr 1
  funext x
  cases x <;> rfl
theorem ap_ite {α : Type} (c : Prop) [Decidable c] (w u : W α) (Φ : α → Prop) : (if c then w else u) Φ = if c then w Φ else u Φ := by
  split <;> rfl
theorem ap_isi (f : String → Bool) (d : D) (Φ : Bool → Prop) : wIsi f d Φ = (nk d = true ∧ Φ (f (tyD d))) := rfl
def sameW : Nat → D → D → W Bool
  | 0, _, _ => nvr
  | n + 1, a, b => bnd (b_same (sameW n) a b) fend
/-- data that the law compares -/
def okD : Nat → D → Prop
  | _, .non => True
  | _, .bl _ => True
  | _, .int i => i.natAbs.log2 < 1920
  | _, .str s => (reprText s).length ≤ sizeLine
  | n + 1, .lst ds => ds.length ≤ sizeLine ∧ ∀ d ∈ ds, okD n d
  | n + 1, .tup ds => ds.length ≤ sizeLine ∧ ∀ d ∈ ds, okD n d
  | _, _ => False
theorem frW_id {R α : Type} {fb : Unit → α → W (Fl R Unit Unit)} {Φ : Fl R Unit Empty → Prop} (h : Φ (.nx ())) : ∀ {xs : List α}, (∀ x ∈ xs, ∀ Ψ : Fl R Unit Unit → Prop, Ψ (.nx ()) → fb () x Ψ) → frW fb xs () Φ
  | [], _ => h
  | x :: xs, k => k x (List.mem_cons_self ..) _ (frW_id h fun y hy => k y (List.mem_cons_of_mem _ hy))
theorem atI_nat {α : Type} {xs : List α} {i : Nat} (h : i < xs.length) : atI xs (i : Int) = some xs[i] := by
  have e : ixN xs.length (i : Int) = some i := by
    unfold ixN
    rw [if_pos (by omega)]
    simp [h]
  unfold atI
  rw [e]
  exact List.getElem?_eq_getElem h
theorem wIx_nat {α : Type} {xs : List α} {i : Nat} {Φ : α → Prop} (h : i < xs.length) (q : Φ xs[i]) : wIx xs (i : Int) Φ := ⟨_, atI_nat h, q⟩
theorem mem_rng0 {n : Nat} {x : Int} (h : x ∈ rng 0 n) : ∃ i : Nat, i < n ∧ x = (i : Int) := by
  unfold rng at h
  rw [List.mem_map] at h
  obtain ⟨i, hi, rfl⟩ := h
  rw [List.mem_range] at hi
  exact ⟨i, by omega, by omega⟩
theorem wRng_ok {n : Nat} {Φ : List Int → Prop} (h : n ≤ sizeLine) (q : Φ (rng 0 n)) : wRng 0 (n : Int) Φ := by
  have e : sizeLine = 16777216 := by decide
  refine ⟨⟨by decide, by omega, ?_, by decide, by omega⟩, q⟩
  have : (n : Int) ≤ 16777216 := by omega
  exact Int.lt_of_le_of_lt this (by decide)
theorem same_parts {n : Nat} {d : D} {ds : List D} (hp : partsD d = some ds) (hz : ds.length ≤ sizeLine) (ih : ∀ e ∈ ds, ∀ Φ, Φ true → sameW n e e Φ) {Φ : Bool → Prop} (q : Φ true) : sameW (n + 1) d d Φ := by
  have nkd : nk d = true := by cases d <;> first | rfl | cases hp
  have hn : isNon d = false := by cases d <;> first | rfl | cases hp
  have hb : ∀ t, isBlD t d = false := by intro t; cases d <;> first | rfl | cases hp
  have hs : (tyD d == "str") = false := by cases d <;> first | rfl | cases hp
  have hi : (tyD d == "int" || tyD d == "bool") = false := by cases d <;> first | rfl | cases hp
  have loop : ∀ Ψ : Fl Bool Unit Empty → Prop, Ψ (.nx ()) → frW (fun (s34 : Unit) x35 => bnd (bnd (bnd (bnd (ret d) fun x40 => bnd (ret x35) fun i41 => wIxD x40 i41) fun q44 => bnd (bnd (ret d) fun x42 => bnd (ret x35) fun i43 => wIxD x42 i43) fun q45 => cl (sameW n q44 q45)) fun x46 => ret (!x46)) fun t47 => if t47 then bnd (bnd (ret false) fun r48 => ret (.rt r48)) lv else (ret (.nx ()))) (rng 0 (ds.length : Int)) () Ψ := fun Ψ hΨ => frW_id hΨ fun x hx Ψ' h' => by
    obtain ⟨i, hi, rfl⟩ := mem_rng0 hx
    refine ⟨ds, hp, wIx_nat hi ⟨ds, hp, wIx_nat hi (le_cl (ih _ (List.getElem_mem hi) _ h'))⟩⟩
  show b_same (sameW n) d d (fun o => fend o Φ)
  unfold b_same
  simp only [ap_bnd, ap_ret, ap_grd, ap_and, ap_or, ap_ite, ap_isi, hn, hb, nkd, hs, hi, Bool.false_eq_true, if_false, true_and]
  have tl : (tyD d == "tuple") = true ∧ (tyD d == "list") = false ∨ (tyD d == "tuple") = false ∧ (tyD d == "list") = true := by
    cases d <;> first | exact .inl ⟨rfl, rfl⟩ | exact .inr ⟨rfl, rfl⟩ | cases hp
  rcases tl with ⟨t1, t2⟩ | ⟨t1, t2⟩ <;> simp only [t1, t2, ap_bnd, ap_ret, ap_grd, ap_and, ap_or, ap_ite, ap_isi, nkd, Bool.false_eq_true, if_false, if_true, true_and, Bool.not_true] <;>
    exact ⟨ds, hp, ds, hp, by simp only [ap_ret, ap_bnd, decide_true, Bool.not_true, Bool.false_eq_true, if_false, ap_ite]; exact ⟨ds, hp, wRng_ok hz (loop _ q)⟩⟩
theorem same_ok : ∀ n d, okD n d → ∀ Φ, Φ true → sameW (n + 1) d d Φ
  | _, .non, _, Φ, q => q
  | _, .bl true, _, Φ, q => q
  | _, .bl false, _, Φ, q => q
  | n, .int i, h, Φ, q => by
    cases n <;> exact ⟨rfl, rfl, rfl, rfl, h, h, by simp only [ret, bnd, decide_true]; exact q⟩
  | n, .str s, h, Φ, q => by
    cases n <;> exact ⟨rfl, rfl, h, h, by simp only [ret, bnd, decide_true]; exact q⟩
  | n + 1, .lst ds, h, Φ, q => same_parts rfl h.1 (fun e he Φ q => same_ok n e (h.2 e he) Φ q) q
  | n + 1, .tup ds, h, Φ, q => same_parts rfl h.1 (fun e he Φ q => same_ok n e (h.2 e he) Φ q) q
  | 0, .lst _, h, _, _ => h.elim
  | 0, .tup _, h, _, _ => h.elim
  | 0, .dk _, h, _, _ => h.elim
  | 0, .dt _, h, _, _ => h.elim
  | 0, .scr _, h, _, _ => h.elim
  | 0, .kt _, h, _, _ => h.elim
  | n + 1, .dk _, h, _, _ => h.elim
  | n + 1, .dt _, h, _, _ => h.elim
  | n + 1, .scr _, h, _, _ => h.elim
  | n + 1, .kt _, h, _, _ => h.elim
end Dt
/-! Dt13: the law's draws and picks. -/
namespace Dt
open PySem PySem.Spec PyProof.Rows L2
/-- the box, read -/
def eBx (p : List Int × Int) : D := .lst [.scr p.1, .int p.2]
section
variable {X : Cx} {G : Gh} {ρ : List Sl} {α β γ : Type} {T : TE} {e a b c : Expr} {k n : Nat} {p pos : Pos} {F H : Hp} {v : V} {d : D} {N : List Str} {sc : Scope}
theorem de_pjL {ea : α → D} {ec : γ → D} {wa : W α} {f : α → γ} {i : Int} {kk ppos} (ha : DB X G ρ a wa ea) (hd : ∀ x, ∃ ds, ea x = .lst ds ∧ atI ds i = some (ec (f x))) : DE X G ρ (.Subscript a (.Constant (.int i) kk ppos) pos) (bnd wa fun x => ret (f x)) ec :=
  de_op1 (op1_ixc ix_list) ha (fun _ => mono_ret _) fun F H v x Q s rv q => by
    obtain ⟨ds, h1, h2⟩ := hd x
    rw [h1] at rv
    obtain ⟨p, vs, rfl, h, r, z⟩ := RepB.lst s rv
    obtain ⟨v', h3, h4⟩ := atI_rep (ea := fun d : D => d) (xs := ds) (by simpa using r) h2
    exact ⟨p, vs, i, v', rfl, rfl, SqL.of h, h3, q _ h4⟩
theorem de_bx0 {wa : W (List Int × Int)} {kk ppos} (ha : DB X G ρ a wa eBx) : DE X G ρ (.Subscript a (.Constant (.int 0) kk ppos) pos) (bnd wa fun x => ret x.1) D.scr := de_pjL ha fun x => ⟨_, rfl, rfl⟩
theorem de_bx1 {wa : W (List Int × Int)} {kk ppos} (ha : DB X G ρ a wa eBx) : DE X G ρ (.Subscript a (.Constant (.int 1) kk ppos) pos) (bnd wa fun x => ret x.2) D.int := de_pjL ha fun x => ⟨_, rfl, rfl⟩
theorem ds_open {many : Int} {rest : List Stmt} {wr : List Int × Int → W (Fl Int Empty Empty)} {np p1 p2 p3 p4 p5 p6 p7 pos : Pos} {k1 k2 k3} (g : Gd X k) (hs : Sc X ["box", "many"] sc) (hv : Vis sc "box")
    (hr : ∀ G' : Gh, G'.bx = none → ∀ b : List Int × Int, DS X G' [.fr (eBx b), .fr (.int many)] rest D.int eE eE (wr b))
    (hpi : PlainIx (.Constant (.int 1) k2 p4) := by exact fun _ _ => rfl)
    (has : ∀ v, assign (.Subscript (.Name "box" np) (.Constant (.int 1) k1 p1) p2) X.env v = (do
      let ov ← holding [v] (eval (.Name "box" np) X.env)
      let iv ← holding [v, ov] (eval (.Constant (.int 1) k1 p1) X.env)
      standAt p2
      holding [v, ov, iv] (setItem ov iv v)
      release [v, ov, iv] []) := by intro _; rfl)
    (hsw : swapsWithSole [.Subscript (.Name "box" np) (.Constant (.int 1) k1 p1) p2] (.BinOp (.Subscript (.Name "box" p3) (.Constant (.int 1) k2 p4) p5) .Add (.Constant (.int 1) k3 p6) p7) pos.line X.env = pure false := by rfl)
    (hw : swappedStores [.Subscript (.Name "box" np) (.Constant (.int 1) k1 p1) p2] (.BinOp (.Subscript (.Name "box" p3) (.Constant (.int 1) k2 p4) p5) .Add (.Constant (.int 1) k3 p6) p7) X.env = pure none := by rfl)
    (h1 : (assignEach [.Subscript (.Name "box" np) (.Constant (.int 1) k1 p1) p2] X.env).map (·.2) = [assign (.Subscript (.Name "box" np) (.Constant (.int 1) k1 p1) p2) X.env] := by rfl) :
    DS X G [.ob, .fr (.int many)] (.Assign [.Subscript (.Name "box" np) (.Constant (.int 1) k1 p1) p2] (.BinOp (.Subscript (.Name "box" p3) (.Constant (.int 1) k2 p4) p5) .Add (.Constant (.int 1) k3 p6) p7) pos :: rest) D.int eE eE
      (fun Φ => ∀ b : List Int × Int, 1 ≤ b.2 → wr b Φ) :=
  ⟨fun P Q i h b hb => (hr ⟨fun _ => none, fun _ => none, none, 0⟩ rfl b).mono _ _ i (h b hb), fun σ F H Dn st q => by
    obtain ⟨_, h0, c, rfl, hbx⟩ := st.sl 0 _ rfl
    obtain ⟨_, h0', v1, rfl, r1⟩ := st.sl 1 _ rfl
    obtain ⟨⟨ds, pp, hH, hS, hp, hz⟩, hFc⟩ := st.box c hbx
    have pv : ∀ {np : Pos}, PE X (.Name "box" np) _ := fun {np} => pe_var (x := "box") (pos := np) (i := 0) (by rw [hs.N]; rfl) (by rw [hs.s]; exact hv) (by decide) (by decide)
    refine PSs_.b (pss_cons (ps_asg pe_b (pg_sub pv pe_b set_list has) hsw hw h1) pss_b) ?_
    refine op2_bin op_add σ H _ (op1_ixc ix_list σ H _ (PE_.b pv ⟨_, h0, ⟨c, [.ref G.bp, .int pp], 1, .int pp, rfl, rfl, SqL.of hH, rfl, PE_.b pe_int ⟨pp, 1, rfl, rfl, ?_⟩⟩⟩))
    refine ⟨_, h0, PE_.b pe_int ⟨c, [.ref G.bp, .int pp], 1, 1, rfl, rfl, hH, rfl, ?_⟩⟩
    have hup : ∀ a o, a ≠ c → F a = some o → (upd F c (.lst [.ref G.bp, .int (pp + 1)])) a = some o := fun a o n e => by rw [upd_ne n]; exact e
    have hsub : Sub F (upd F c (.lst [.ref G.bp, .int (pp + 1)])) := sub_upd hFc
    have st2 : Sta X.K ⟨fun a => if a = c then none else H a, F, none, 0⟩ [.fr (eBx (ds, pp + 1)), .fr (.int many)] σ (upd F c (.lst [.ref G.bp, .int (pp + 1)])) (upd H c (.lst [.ref G.bp, .int (pp + 1)])) :=
      { len := st.len
        sl := fun i s e => by
          match i, e with
          | 0, e =>
            cases e
            exact ⟨_, h0, _, rfl, .lst (ds := [.scr ds, .int (pp + 1)]) upd_same (.cons (.scr (Evl.ex_l hsub hS) hz) (.cons (.int _) .nil)) (show 2 ≤ sizeLine by decide)⟩
          | 1, e =>
            cases e
            exact ⟨_, h0', _, rfl, r1.mono hsub⟩
          | i + 2, e => exact absurd e (by simp)
        ne := fun i j d e a n e1 _ _ _ => by
          match i, e1 with
          | 0, e1 => cases e1
          | 1, e1 => cases e1
          | i + 2, e1 => exact absurd e1 (by simp)
        sub := fun a o e => by
          by_cases n : a = c
          · subst n
            rw [upd_same] at e ⊢
            exact e
          · rw [upd_ne n] at e ⊢
            exact st.sub a o e
        ent := fun a o e _ => by
          by_cases n : a = c
          · simp [n] at e
          · rw [upd_ne n]
            simpa [n] using e
        new := fun a o e => by
          by_cases n : a = c
          · exact .inr (by simp [n])
          · rw [upd_ne n] at e
            exact .inl e
        f0 := hsub
        box := fun c e => nomatch e }
    have hrr := hr ⟨fun a => if a = c then none else H a, F, none, 0⟩ rfl (ds, pp + 1)
    refine hrr.run σ _ _ Dn st2 (hrr.mono _ _ (fun o z => ?_) (q (ds, pp + 1) (by show 1 ≤ pp + 1; omega)))
    cases o with
    | nx s => exact nomatch s
    | bk s => exact nomatch s
    | ct s => exact nomatch s
    | rt r =>
      intro v F2 H2 fn sF rp
      have hc : H2 c = some (.lst [.ref G.bp, .int (pp + 1)]) := fn.sub _ _ (sF _ _ upd_same)
      have sF2 : Sub F (fun a => if a = c then none else F2 a) := fun a o e => by
        have n : a ≠ c := fun n => by subst n; rw [hFc] at e; cases e
        simpa [n] using sF _ _ (hsub _ _ e)
      refine z v (fun a => if a = c then none else F2 a) H2 ⟨fun a o e => ?_, fun a o e n => ?_, fun a o e => ?_, fun a o e => sF2 _ _ (st.f0 _ _ e), fun c' e => ?_⟩ sF2 ?_
      · by_cases n : a = c
        · simp [n] at e
        · exact fn.sub _ _ (by simpa [n] using e)
      · have n' : a ≠ c := fun z => n (by rw [z]; exact hbx)
        exact fn.ent a o (by simpa [n'] using st.ent a o e n) (fun z => nomatch z)
      · by_cases n : a = c
        · simp [n] at e
        · rcases fn.new a o (by simpa [n] using e) with y | y
          · exact st.new a o y
          · exact .inr (st.hn (by simpa [n] using y)).1
      · rw [hbx] at e
        cases e
        exact ⟨⟨ds, pp + 1, hc, Evl.ex_l sF2 hS, by omega, hz⟩, by simp⟩
      · generalize hd : D.int r = d at rp
        cases rp with
        | int i => cases hd; exact .int _
        | _ => cases hd⟩
end
def b_drawR (b : List Int × Int) (a_many : Int) : W (Fl Int Empty Empty) :=
  bnd (bnd (bnd (ret b) fun x1 => ret x1.2) fun x4 => bnd (bnd (bnd (ret b) fun x2 => ret x2.1) fun x3 => ret (x3.length : Int)) fun y5 => ret (decide (y5 < x4))) fun t6 => if t6 then bnd (bnd (bnd (bnd (bnd (bnd (ret b) fun x7 => ret x7.2) fun x8 => bnd (ret (7 : Int)) fun y9 => wMul x8 y9) fun x10 => bnd (ret (3 : Int)) fun y11 => ret (x10 + y11)) fun x12 => bnd (ret a_many) fun y13 => wMod x12 y13) fun r14 => ret (.rt r14)) lv else (bnd (bnd (bnd (bnd (ret b) fun x15 => ret x15.1) fun x16 => bnd (bnd (bnd (ret b) fun x17 => ret x17.2) fun x18 => bnd (ret (1 : Int)) fun y19 => ret (x18 - y19)) fun i20 => wIx x16 i20) fun x21 => bnd (ret a_many) fun y22 => wMod x21 y22) fun r23 => ret (.rt r23))
def b_draw (a_many : Int) : W (Fl Int Empty Empty) := fun Φ => ∀ b : List Int × Int, 1 ≤ b.2 → b_drawR b a_many Φ
/-- a draw: any number below many -/
def w_law_draw (many : Int) : W Int := grd (0 < many) fun Φ => ∀ x : Int, 0 ≤ x → x < many → Φ x
theorem fmod_rng {x y : Int} (h : 0 < y) : 0 ≤ x.fmod y ∧ x.fmod y < y := ⟨Int.fmod_nonneg_of_pos x h, Int.fmod_lt_of_pos x h⟩
theorem draw_ok {many : Int} {Φ : Int → Prop} (h : w_law_draw many Φ) : bnd (b_draw many) fend Φ := fun b hb => by
  obtain ⟨hm, q⟩ := h
  have hm0 : many ≠ 0 := by omega
  have r := fun x => fmod_rng (x := x) hm
  unfold b_drawR
  simp only [ap_bnd, ap_ret]
  by_cases hl : (b.1.length : Int) < b.2
  · simp only [hl, decide_true, if_true]
    refine ⟨.inr ⟨by decide, by decide⟩, hm0, ?_⟩
    exact q _ (r _).1 (r _).2
  · simp only [hl, decide_false, Bool.false_eq_true, if_false]
    obtain ⟨ds, n⟩ := b
    have hb : 1 ≤ n := hb
    have hl : ¬ (ds.length : Int) < n := hl
    have e : n - 1 = ((n - 1).toNat : Int) := by omega
    show wIx ds (n - 1) _
    rw [e]
    refine wIx_nat (by omega) ⟨hm0, q _ (r _).1 (r _).2⟩
def b_pickD (a_row : D) : W (Fl D Empty Empty) :=
  bnd (bnd (ret a_row) fun x1 => bnd (bnd (bnd (ret (1000 : Int)) fun q2 => cl (w_law_draw q2)) fun x4 => bnd (bnd (ret a_row) wLenD) fun y5 => wMod x4 y5) fun i6 => wIxD x1 i6) fun r7 => ret (.rt r7)
def b_pickS (a_row : Tx) : W (Fl Tx Empty Empty) :=
  bnd (bnd (ret a_row) fun x1 => bnd (bnd (bnd (ret (1000 : Int)) fun q2 => cl (w_law_draw q2)) fun x4 => bnd (bnd (ret a_row) fun x3 => ret (x3.length : Int)) fun y5 => wMod x4 y5) fun i6 => bnd (wIx x1 i6) fun c7 => ret [c7]) fun r8 => ret (.rt r8)
def pickW : List D → W D := fun ds Φ => (∃ d xs, ds = [d] ∧ partsD d = some xs ∧ xs ≠ [] ∧ ∀ x ∈ xs, Φ x) ∨ ∃ s : Tx, ds = [eS s] ∧ s ≠ [] ∧ ∀ c ∈ s, Φ (eS [c])
theorem pickD_ok {d : D} {xs : List D} {Φ : D → Prop} (hp : partsD d = some xs) (hn : xs ≠ []) (q : ∀ x ∈ xs, Φ x) : bnd (b_pickD d) fend Φ := by
  have hl : 0 < xs.length := List.length_pos_iff.mpr hn
  have r := fun x => fmod_rng (x := x) (y := (xs.length : Int)) (by omega)
  show cl (w_law_draw 1000) _
  refine le_cl ⟨by decide, fun x _ _ => ?_⟩
  refine ⟨xs, hp, by omega, xs, hp, ?_⟩
  have e : x.fmod (xs.length : Int) = ((x.fmod (xs.length : Int)).toNat : Int) := by have := r x; omega
  rw [e]
  have hi : (x.fmod (xs.length : Int)).toNat < xs.length := by have := r x; omega
  exact wIx_nat hi (q _ (List.getElem_mem hi))
theorem pickS_ok {s : Tx} {Φ : D → Prop} (hn : s ≠ []) (q : ∀ c ∈ s, Φ (eS [c])) : bnd (b_pickS s) fend fun r => Φ (eS r) := by
  have hl : 0 < s.length := List.length_pos_iff.mpr hn
  have r := fun x => fmod_rng (x := x) (y := (s.length : Int)) (by omega)
  show cl (w_law_draw 1000) _
  refine le_cl ⟨by decide, fun x _ _ => ?_⟩
  refine ⟨by omega, ?_⟩
  have e : x.fmod (s.length : Int) = ((x.fmod (s.length : Int)).toNat : Int) := by have := r x; omega
  rw [e]
  have hi : (x.fmod (s.length : Int)).toNat < s.length := by have := r x; omega
  exact wIx_nat hi (q _ (List.getElem_mem hi))
theorem mono_pickW (ds : List D) : Mono (pickW ds) := fun P Q i h => by
  rcases h with ⟨d, xs, e, hp, hn, q⟩ | ⟨s, e, hn, q⟩
  · exact .inl ⟨d, xs, e, hp, hn, fun x hx => i _ (q x hx)⟩
  · exact .inr ⟨s, e, hn, fun x hx => i _ (q x hx)⟩
theorem mono_draw (m : Int) : Mono (w_law_draw m) := fun P Q i ⟨h, q⟩ => ⟨h, fun x h1 h2 => i x (q x h1 h2)⟩
section
variable {M : Md} {N ps : List Str} {k k' n : Nat} {x qual : Str} {st : Stmt} {f : Addr} {fd : FuncData}
theorem draw_fn (F : Fun M.K "_law_draw" qual st f fd) (S : FnScope ["box", "many"] ["box", "many"] (defScope st)) (hm : M.mg "_law_draw" = some (.ref f)) (hbd : Binds M.K fd ["box", "many"] [])
    (hb : ∀ X, Ct X k M ["box", "many"] (defScope st) fnT → ∀ G : Gh, ∀ a, DS X G [.ob, .fr (D.int a)] (defBody st) D.int eE eE (b_draw a)) : FnBx M (k + 1) "_law_draw" 1 (d1 D.int D.int w_law_draw) :=
  (FnBx.mk1 (ea := D.int) (er := D.int) (fb := b_draw) F S rfl hm hbd hb).imp (mono_d1 (f := w_law_draw)) fun ds Φ ⟨a, e, P, q, i⟩ => ⟨a, e, le_cl (draw_ok (mono_draw a _ _ i q))⟩
theorem pick_fn (F : Fun M.K "_law_pick" qual st f fd) (S : FnScope ["box", "row"] ["box", "row"] (defScope st)) (hm : M.mg "_law_pick" = some (.ref f)) (hbd : Binds M.K fd ["box", "row"] [])
    (hD : ∀ X, Ct X k M ["box", "row"] (defScope st) fnT → ∀ G : Gh, ∀ a, DS X G [.ob, .fr (eD a)] (defBody st) eD eE eE (b_pickD a))
    (hS : ∀ X, Ct X k M ["box", "row"] (defScope st) fnT → ∀ G : Gh, ∀ a, DS X G [.ob, .fr (eS a)] (defBody st) eS eE eE (b_pickS a)) : FnBx M (k + 1) "_law_pick" 1 pickW :=
  .mk' F S rfl (fun X c G ds hl Φ h => by
    rcases h with ⟨d, xs, rfl, hp, hn, q⟩ | ⟨s, rfl, hn, q⟩
    · exact ⟨_, eD, b_pickD d, hD X c G d, pickD_ok hp hn q⟩
    · exact ⟨_, eS, b_pickS s, hS X c G s, pickS_ok hn q⟩) mono_pickW hm hbd
theorem same_fn (F : Fun M.K "_law_same" qual st f fd) (S : FnScope ["told", "due", "k"] ["told", "due"] (defScope st)) (hm : M.mg "_law_same" = some (.ref f)) (hbd : Binds M.K fd ["told", "due"] [])
    (hb : ∀ k w, FnAt M k "_law_same" 2 (d2 eD eD D.bl w) → ∀ X, Ct X k M ["told", "due", "k"] (defScope st) fnT → ∀ G : Gh, ∀ a b, DS X G [.fr (eD a), .fr (eD b), .un] (defBody st) D.bl eE eE (b_same w a b)) : ∀ n, FnAt M (n + 1) "_law_same" 2 (d2 eD eD D.bl (sameW n))
  | 0 => .mk' F S rfl (fun X c G ds hG hl Φ h => by
      obtain ⟨a, b, e, P, q, i⟩ := h
      exact q.elim) (mono_d2 (f := sameW 0)) hm hbd
  | n + 1 => .mk2 (ea := eD) (eb := eD) (er := D.bl) (fb := b_same (sameW n)) F S rfl hm hbd fun X c G hG a b => hb (n + 1) (sameW n) (same_fn F S hm hbd hb n) X c G a b
end
section
variable {X : Cx} {G : Gh} {ρ : List Sl} {α : Type} {e a b : Expr} {k k' n i : Nat} {p bp pos : Pos} {N : List Str} {sc : Scope} {ea : α → D} {bx : Str}
/-- the same: both are one value -/
def wSame (n : Nat) (enc : α → D) (x y : α) : W Bool := fun Φ => x = y ∧ okD n (enc x) ∧ Φ true
theorem de_same {wa wb : W α} (F : FnAt (md X) k' "_law_same" 2 (d2 eD eD D.bl (sameW (n + 1)))) (g : Gd X k) (hk : k' ≤ k) (hg : Gl X "_law_same") (ha : DE X G ρ a wa ea) (hb : DE X G ρ b wb ea)
    (he : starEach [a, b] X.env = (false, eval a X.env) :: starEach [b] X.env := by rfl) (he2 : starEach [b] X.env = (false, eval b X.env) :: starEach [] X.env := by rfl) (hpl : (backTo pos (starEach [b] X.env)).any (·.1) = false := by rfl) :
    DE X G ρ (.Call (.Name "_law_same" p) [a, b] [] pos) (bnd wa fun x => bnd wb fun y => wSame n ea x y) D.bl :=
  (de_call2 F g hk hg (ha.map (enc' := eD) (f := ea) fun _ => rfl) (hb.map (enc' := eD) (f := ea) fun _ => rfl) (by decide) he he2 hpl).imp
    (mono_bnd ha.mono fun x => mono_bnd hb.mono fun y => fun P Q i h => ⟨h.1, h.2.1, i _ h.2.2⟩) fun R q => ha.mono _ _ (fun x q => hb.mono _ _ (fun y q => by
      obtain ⟨rfl, ok, q⟩ := q
      exact le_cl (same_ok n _ ok _ q)) q) q
def wPick (xs : List α) : W α := grd (xs ≠ []) fun Φ => ∀ x ∈ xs, Φ x
def wPickS (s : Tx) : W Tx := grd (s ≠ []) fun Φ => ∀ c ∈ s, Φ [c]
theorem mono_wPick (xs : List α) : Mono (wPick xs) := fun P Q i ⟨h, q⟩ => ⟨h, fun x hx => i _ (q x hx)⟩
theorem mono_wPickS (s : Tx) : Mono (wPickS s) := fun P Q i ⟨h, q⟩ => ⟨h, fun x hx => i _ (q x hx)⟩
section
variable (F : FnBx (md X) k' "_law_pick" 1 pickW) (g : Gd X k) (hk : k' ≤ k) (hs : Sc X N sc) (hN : N[i]? = some bx) (hv : Vis sc bx) (hρ : ρ[i]? = some .ob) (hg : Gl X "_law_pick")
include F g hk hs hN hv hρ hg
theorem de_pickL {wa : W (List α)} (ha : DE X G ρ a wa (eL ea))
    (hd : (bx == ("__debug__" : Str)) = false := by decide) (hcd : (bx == ("__classdict__" : Str)) = false := by decide)
    (he : starEach [.Name bx bp, a] X.env = (false, eval (.Name bx bp) X.env) :: starEach [a] X.env := by rfl) (he2 : starEach [a] X.env = (false, eval a X.env) :: starEach [] X.env := by rfl) (hpl : (backTo pos (starEach [a] X.env)).any (·.1) = false := by rfl) :
    DE X G ρ (.Call (.Name "_law_pick" p) [.Name bx bp, a] [] pos) (bnd wa wPick) ea :=
  (de_callB F g hk hs hN hv hρ hg (da_cons ha da_nil he2) (fun P q => ha.mono _ _ (fun x q => ⟨rfl, q⟩) q) (by decide) hd hcd he hpl).imp (mono_bnd ha.mono mono_wPick) fun R q => ha.mono _ _ (fun xs q => .inl ⟨_, _, rfl, rfl, fun z => q.1 (List.map_eq_nil_iff.mp z), fun d hd => by
    obtain ⟨x, hx, rfl⟩ := List.mem_map.mp hd
    exact q.2 x hx⟩) q
theorem de_pickT {wa : W (List α)} (ha : DE X G ρ a wa (eT ea))
    (hd : (bx == ("__debug__" : Str)) = false := by decide) (hcd : (bx == ("__classdict__" : Str)) = false := by decide)
    (he : starEach [.Name bx bp, a] X.env = (false, eval (.Name bx bp) X.env) :: starEach [a] X.env := by rfl) (he2 : starEach [a] X.env = (false, eval a X.env) :: starEach [] X.env := by rfl) (hpl : (backTo pos (starEach [a] X.env)).any (·.1) = false := by rfl) :
    DE X G ρ (.Call (.Name "_law_pick" p) [.Name bx bp, a] [] pos) (bnd wa wPick) ea :=
  (de_callB F g hk hs hN hv hρ hg (da_cons ha da_nil he2) (fun P q => ha.mono _ _ (fun x q => ⟨rfl, q⟩) q) (by decide) hd hcd he hpl).imp (mono_bnd ha.mono mono_wPick) fun R q => ha.mono _ _ (fun xs q => .inl ⟨_, _, rfl, rfl, fun z => q.1 (List.map_eq_nil_iff.mp z), fun d hd => by
    obtain ⟨x, hx, rfl⟩ := List.mem_map.mp hd
    exact q.2 x hx⟩) q
theorem de_pickS {wa : W Tx} (ha : DE X G ρ a wa eS)
    (hd : (bx == ("__debug__" : Str)) = false := by decide) (hcd : (bx == ("__classdict__" : Str)) = false := by decide)
    (he : starEach [.Name bx bp, a] X.env = (false, eval (.Name bx bp) X.env) :: starEach [a] X.env := by rfl) (he2 : starEach [a] X.env = (false, eval a X.env) :: starEach [] X.env := by rfl) (hpl : (backTo pos (starEach [a] X.env)).any (·.1) = false := by rfl) :
    DE X G ρ (.Call (.Name "_law_pick" p) [.Name bx bp, a] [] pos) (bnd wa wPickS) eS :=
  (de_callB F g hk hs hN hv hρ hg (da_cons ha da_nil he2) (fun P q => ha.mono _ _ (fun x q => ⟨rfl, q⟩) q) (by decide) hd hcd he hpl).imp (mono_bnd ha.mono mono_wPickS) fun R q => ha.mono _ _ (fun s q => .inr ⟨s, rfl, q.1, q.2⟩) q
end
end
end Dt
/-! Dt14: written tuples of the module, its constants, the law's box. -/
namespace Dt
open PySem PySem.Spec PyProof.Rows L2
def eKt {α : Type} (e : α → D) (xs : List α) : D := .kt (xs.map e)
def ek2 {α β : Type} (ea : α → D) (eb : β → D) (p : α × β) : D := .kt [ea p.1, eb p.2]
/-- a constant of the module -/
def GbAt (M : Md) (x : Str) (d : D) : Prop := ∃ v u, M.mg x = some u ∧ RelV v u ∧ ∀ F, Rep M.K F v d
theorem rep_k {K : PySem.W.Frag} {F : Hp} {a : Addr} {od : Option Addr} {its : List Value} {n : Nat} {sl : Array (Option Value)} {vs : List V} {ds : List D} (h : K.lookup a = some ⟨.type "tuple", od, .seq its.toArray n, sl⟩) (hv : Vals vs its) (r : Reps K F vs ds) (hz : ds.length ≤ sizeLine) : Rep K F (.ref a) (.kt ds) :=
  .kt (vs := vs) (.inr ⟨_, its.toArray, n, h, rfl, rfl, by
    rw [List.size_toArray, ← hv.length, r.len]
    exact hz, hv⟩) r hz
section
variable {X : Cx} {G : Gh} {ρ : List Sl} {α β γ : Type} {T : TE} {e a b c : Expr} {k n i : Nat} {p pos : Pos} {F H : Hp} {v : V} {d : D} {N : List Str} {sc : Scope} {enc : α → D} {w : W (List α)} {x : Str} {M : Md} {tg iter : Expr} {ds : List D} {ts : List Expr} {u : List Sl → List Sl} {is : List Nat}
theorem Ct.gb {fp} (c : Ct X k M N sc fp) (B : GbAt M x d) : GbAt (md X) x d := c.m.symm ▸ B
theorem de_glob {y : α} (hg : Gl X x) (B : GbAt (md X) x (enc y)) (hd : (x == ("__debug__" : Str)) = false := by decide) : DE X G ρ (.Name x pos) (ret y) enc := by
  obtain ⟨v, u, hm, rv, r⟩ := B
  exact de_c (pe_glob hg hm rv hd) r
theorem di_kt (h : DE X G ρ iter w (eKt enc)) : DI X G ρ tg iter w enc :=
  ⟨h.mono, fun σ F H R st q => PI_.b (pi_tup pe_b) (h.run σ F H _ st (h.mono _ _ (fun xs q v F' H' st' l r => by
    unfold eKt at r
    cases r with
    | kt hq rs hz => exact ⟨_, rfl, ⟨_, Evl.ex_t st'.sub hq⟩, q _ F' H' st' l (itok_tup rs (by simpa using hz) fun F2 H2 c s => ⟨c, Evl.ex_t s (Evl.ex_t c hq)⟩)⟩) q))⟩
theorem tg_ktup {kk : Nat} {n : Nat} (g : Gd X k) (h : TGs' X G ts ds u is) (hn : (assignEach ts X.env).length = n := by rfl) (hl : ds.length = n := by rfl) (hst : (assignEach ts X.env).findIdx? (·.1) = none := by rfl) : TGt X G (.Tuple ts kk pos) (.kt ds) u is := by
  obtain ⟨t, ht, h2⟩ := h.run
  exact ⟨fun ρ σ F H v Q st r q => PG_.b (pg_tup g.calm ht hn hst) (by
    cases r with
    | kt hq rs hz => exact ⟨_, _, rfl, Evl.ex_t st.sub hq, by rw [rs.len]; exact hl, h2 ρ σ F H _ Q st rs q⟩)⟩
/-- the box, new -/
def eBox (xs : List Int) : D := .lst [eL D.int xs, .int 0]
theorem dl_box {j p0} {wb : W (List Int)} (h : DE X G ρ e wb (eL D.int)) (hs : starEach [e, .Constant (.int 0) j p0] X.env = (false, eval e X.env) :: starEach [.Constant (.int 0) j p0] X.env := by rfl)
    (hs2 : starEach [.Constant (.int 0) j p0] X.env = (false, eval (.Constant (.int 0) j p0) X.env) :: starEach [] X.env := by rfl) : DL X G ρ (.List [e, .Constant (.int 0) j p0] pos) wb eBox := by
  have z := dl_listD (pos := pos) (da_cons h (da_cons (de_int (i := 0) (j := j) (pos := p0)) da_nil hs2) hs) (fun P q => h.mono _ _ (fun x q => ⟨by show 2 ≤ 1000; decide, q⟩) q)
  exact ⟨h.mono, fun σ F H Q st q => z.run σ F H Q st q⟩
theorem rep_ints {K : PySem.W.Frag} : ∀ {vs : List V} {xs : List Int}, Reps K F vs (xs.map D.int) → vs = xs.map V.int
  | [], [], _ => rfl
  | v :: vs, x :: xs, .cons r rs => by
    cases r
    rw [rep_ints rs]
    rfl
theorem ds_ob {R : Type} {eR : R → D} {ss : List Stmt} {xs : List Int} {wr : W (Fl R Empty Empty)} (hG : G.bx = none) (hρ : ρ[i]? = some (.ow (eBox xs))) (h : ∀ G' : Gh, DS X G' (ρ.set i .ob) ss eR eE eE wr) : DS X G ρ ss eR eE eE wr :=
  ⟨(h G).mono, fun σ F H Dn st q => by
    obtain ⟨_, h1, c, rfl, ⟨vs, hH, rs, hz⟩, hF, h0, hb⟩ := st.sl i _ hρ
    obtain ⟨v0, v1, rfl, r0, r1⟩ : ∃ v0 v1, vs = [v0, v1] ∧ Rep X.K F v0 (eL D.int xs) ∧ Rep X.K F v1 (.int 0) := by
      cases rs with
      | cons r0 rs =>
        cases rs with
        | cons r1 rs =>
          cases rs
          exact ⟨_, _, rfl, r0, r1⟩
    obtain rfl : v1 = .int 0 := by cases r1; rfl
    obtain ⟨p, rfl, hp, hz'⟩ : ∃ p, v0 = .ref p ∧ F p = some (.lst (xs.map V.int)) ∧ xs.length ≤ sizeLine := by
      unfold eL at r0
      cases r0 with
      | lst hq rs hz => exact ⟨_, rfl, by rw [hq, rep_ints rs], by simpa using hz⟩
    have st2 : Sta X.K ⟨G.H0, G.F0, some c, p⟩ (ρ.set i .ob) σ F H :=
      { len := by rw [List.length_set]; exact st.len
        sl := fun j s e => by
          by_cases hj : i = j
          · subst hj
            rw [List.getElem?_set_self (by
              have := st.sl i _ hρ
              rcases Nat.lt_or_ge i ρ.length with z | z
              · exact z
              · rw [List.getElem?_eq_none z] at hρ; cases hρ)] at e
            cases e
            exact ⟨_, h1, c, rfl, rfl⟩
          · rw [List.getElem?_set_ne hj] at e
            obtain ⟨x, h2, h3⟩ := st.sl j s e
            refine ⟨x, h2, ?_⟩
            cases s with
            | un => trivial
            | fr d => exact h3
            | ob =>
              obtain ⟨c', _, z⟩ := h3
              rw [hG] at z
              cases z
            | ow d =>
              obtain ⟨a, ea, o, n, hh, _⟩ := h3
              refine ⟨a, ea, o, n, hh, fun z => ?_⟩
              cases z
              subst ea
              exact st.ne i j _ _ c hj hρ e h1 h2
        ne := fun j l d e a n e1 e2 e3 e4 => by
          have f : ∀ {j : Nat} {d : D}, (ρ.set i .ob)[j]? = some (.ow d) → ρ[j]? = some (.ow d) := fun {j d} z => by
            by_cases hj : i = j
            · subst hj
              rcases Nat.lt_or_ge i ρ.length with y | y
              · rw [List.getElem?_set_self y] at z; cases z
              · rw [List.getElem?_eq_none (by rw [List.length_set]; exact y)] at z; cases z
            · rwa [List.getElem?_set_ne hj] at z
          exact st.ne j l d e a n (f e1) (f e2) e3 e4
        sub := st.sub
        ent := fun a o e n => st.ent a o e (by rw [hG]; exact fun z => nomatch z)
        new := st.new
        f0 := st.f0
        box := fun c' e => by
          cases e
          exact ⟨⟨xs, 0, hH, SqL.of hp, Int.le_refl _, hz'⟩, hF⟩ }
    have hh := h ⟨G.H0, G.F0, some c, p⟩
    refine hh.run σ F H Dn st2 (hh.mono _ _ (fun o z => ?_) q)
    cases o with
    | nx s => exact nomatch s
    | bk s => exact nomatch s
    | ct s => exact nomatch s
    | rt r =>
      intro v F2 H2 fn sF rp
      refine z v F2 H2 ⟨fn.sub, fun a o e n => fn.ent a o e fun y => ?_, fn.new, fn.f0, fun c' e => by rw [hG] at e; cases e⟩ sF rp
      cases y
      rw [h0] at e
      cases e⟩
end
end Dt
/-! Dt15: the law's own promise. -/
namespace Dt
open PySem PySem.Spec PyProof.Rows L2
def spLaw (K : PySem.W.Frag) : Sp := fun vs H Q _ => ∃ (a : Addr) (ns : List Int), vs = [.ref a] ∧ SqL K H a (ns.map V.int) ∧ ns.length ≤ 63 ∧ ∀ H', Q (.bl true) H'
theorem law_fn {M : Md} {N : List Str} {k : Nat} {qual x : Str} {st : Stmt} {f : Addr} {fd : FuncData} {fb : List Int → W (Fl Bool Empty Empty)} (F : Fun M.K x qual st f fd) (S : FnScope N ["script"] (defScope st))
    (hb : ∀ X, Ct X k M N (defScope st) fnT → ∀ G : Gh, G.bx = none → ∀ a, DS X G (slots N [D.scr a]) (defBody st) D.bl eE eE (fb a)) (ht : ∀ (ns : List Int) (Φ : Bool → Prop), ns.length ≤ 63 → Φ true → bnd (fb ns) fend Φ) :
    FnOk M.P M.w M.K M.mg M.base CX0 (k + 1) f fd ["script"] (spLaw M.K) := by
  have h := fn_ok (k := k) (n := 1) (dw := d1 D.scr D.bl fun ns => bnd (fb ns) fend) F S rfl (fun X c G ds hG hl Φ ⟨a, e, P, q, i⟩ => by
    subst e
    exact ⟨_, D.bl, fb a, hb X c G hG a, mono_bnd (hb X c G hG a).mono mono_fend _ _ (fun r p => i r p) q⟩)
  refine h.imp fun vs H Q E h => ?_
  obtain ⟨a, ns, rfl, hS, hl, q⟩ := h
  refine ⟨H, [.scr ns], Sub.refl H, .cons (.scr hS (Nat.le_trans hl (by decide))) .nil, rfl, ns, rfl, le_cl (ht ns _ hl ?_)⟩
  intro v F' H' _ _ _ _ r
  cases r
  exact q H'
end Dt
/-! Dt16: what a wp gives: loops. -/
namespace Dt
open PySem PySem.Spec PyProof.Rows L2
section
variable {α β R S B S1 : Type}
theorem ap_thn (wr : S1 → W (Fl R S B)) (s : S1) : thn' wr (.nx s) = wr s := rfl
theorem ap_thn_rt (wr : S1 → W (Fl R S B)) (r : R) : thn' wr (.rt r) = ret (.rt r) := rfl
theorem ap_thnL (wr : S1 → W (Fl R S B)) (s : S1) : thnL wr (.nx s) = wr s := rfl
theorem ap_thnL_rt (wr : S1 → W (Fl R S B)) (r : R) : thnL wr (.rt r) = ret (.rt r) := rfl
theorem ap_lv (r : R) : (lv (.rt r) : W (Fl R S B)) = ret (.rt r) := rfl
theorem ap_fend (r : R) : fend (.rt r : Fl R Empty Empty) = ret r := rfl
theorem frW_inv {fb : S → α → W (Fl R S S)} {xs : List α} {Φ : Fl R S Empty → Prop} (I : Nat → S → Prop)
    (hs : ∀ i s x, xs[i]? = some x → I i s → ∀ Ψ : Fl R S S → Prop, (∀ s', I (i + 1) s' → Ψ (.nx s')) → (∀ s', I (i + 1) s' → Ψ (.ct s')) → (∀ r, Φ (.rt r) → Ψ (.rt r)) → (∀ s', Φ (.nx s') → Ψ (.bk s')) → fb s x Ψ)
    (hΦ : ∀ s, I xs.length s → Φ (.nx s)) : ∀ {s}, I 0 s → frW fb xs s Φ := by
  induction xs generalizing I with
  | nil => exact fun h => hΦ _ h
  | cons x xs ih =>
    intro s h
    have go := fun {s'} => ih (fun i s => I (i + 1) s) (fun i s y hy hi => hs (i + 1) s y (by simpa using hy) hi) (fun s hI => hΦ s (by simpa using hI)) (s := s')
    exact hs 0 s x rfl h _ (fun s' h' => go h') (fun s' h' => go h') (fun r z => z) (fun s' z => z)
/-- .. that hangs on no place -/
theorem frW_inv0 {fb : S → α → W (Fl R S S)} {xs : List α} {Φ : Fl R S Empty → Prop} (I : S → Prop)
    (hs : ∀ s x, x ∈ xs → I s → ∀ Ψ : Fl R S S → Prop, (∀ s', I s' → Ψ (.nx s')) → (∀ s', I s' → Ψ (.ct s')) → (∀ r, Φ (.rt r) → Ψ (.rt r)) → (∀ s', Φ (.nx s') → Ψ (.bk s')) → fb s x Ψ)
    (hΦ : ∀ s, I s → Φ (.nx s)) {s} (h : I s) : frW fb xs s Φ :=
  frW_inv (fun _ s => I s) (fun i s x e h => hs s x (List.mem_of_getElem? e) h) hΦ h
/-- a fold -/
theorem frW_fold {fb : S → α → W (Fl R S S)} (g : S → α → S) {xs : List α} {Φ : Fl R S Empty → Prop} (I : S → Prop)
    (hs : ∀ s x, x ∈ xs → I s → I (g s x) ∧ ∀ Ψ : Fl R S S → Prop, Ψ (.nx (g s x)) → fb s x Ψ) : ∀ {s}, I s → Φ (.nx (xs.foldl g s)) → frW fb xs s Φ := by
  induction xs with
  | nil => exact fun _ h => h
  | cons x xs ih =>
    intro s h hΦ
    have z := hs s x (List.mem_cons_self ..) h
    exact z.2 _ (ih (fun s y hy => hs s y (List.mem_cons_of_mem _ hy)) z.1 hΦ)
/-- a loop's run -/
def loopN (c : S → Bool) (g : S → S) (n : Nat) : S → S := Nat.rec (fun s => s) (fun _ ih s => if c s then ih (g s) else s) n
theorem loopN_succ (c : S → Bool) (g : S → S) (n : Nat) (s : S) : loopN c g (n + 1) s = if c s then loopN c g n (g s) else s := rfl
theorem wh_loop {wc : S → W Bool} {wb : S → W (Fl R S S)} {Φ : Fl R S Empty → Prop} (c : S → Bool) (g : S → S) (I : S → Prop) (m : S → Nat)
    (hc : ∀ s, I s → ∀ Ψ : Bool → Prop, Ψ (c s) → wc s Ψ)
    (hb : ∀ s, I s → c s = true → I (g s) ∧ m (g s) < m s ∧ ∀ Ψ : Fl R S S → Prop, Ψ (.nx (g s)) → wb s Ψ) :
    ∀ (n : Nat) {s}, I s → m s ≤ n → Φ (.nx (loopN c g n s)) → wh wc wb s Φ := by
  have go : ∀ (n : Nat) {s}, I s → m s ≤ n → Φ (.nx (loopN c g n s)) → whN wc wb (n + 1) s Φ := by
    intro n
    induction n with
    | zero =>
      intro s h hm q
      refine hc s h _ ?_
      cases e : c s with
      | false => exact q
      | true =>
        have := (hb s h e).2.1
        omega
    | succ n ih =>
      intro s h hm q
      refine hc s h _ ?_
      rw [loopN_succ] at q
      cases e : c s with
      | false => rw [e] at q; exact q
      | true =>
        rw [e] at q
        have z := hb s h e
        exact z.2.2 _ (ih z.1 (by omega) q)
  exact fun n s h hm q => ⟨n + 1, go n h hm q⟩
/-- .. by what is sure -/
theorem wh_inv {wc : S → W Bool} {wb : S → W (Fl R S S)} {Φ : Fl R S Empty → Prop} (I : S → Prop) (m : S → Nat)
    (h : ∀ s, I s → ∀ Ψ : Bool → Prop, (∀ b, (b = true → ∀ Θ : Fl R S S → Prop, (∀ s', I s' → m s' < m s → Θ (.nx s')) → (∀ s', I s' → m s' < m s → Θ (.ct s')) → (∀ r, Φ (.rt r) → Θ (.rt r)) → (∀ s', Φ (.nx s') → Θ (.bk s')) → wb s Θ) → (b = false → Φ (.nx s)) → Ψ b) → wc s Ψ) : ∀ {s}, I s → wh wc wb s Φ := by
  have go : ∀ (n : Nat) {s}, I s → m s ≤ n → whN wc wb (n + 1) s Φ := by
    intro n
    induction n with
    | zero =>
      intro s h' hz
      refine h s h' _ fun b h1 h2 => ?_
      cases b with
      | false => exact h2 rfl
      | true => exact h1 rfl _ (fun s' _ z => absurd z (by omega)) (fun s' _ z => absurd z (by omega)) (fun r z => z) (fun s' z => z)
    | succ n ih =>
      intro s h' hz
      refine h s h' _ fun b h1 h2 => ?_
      cases b with
      | false => exact h2 rfl
      | true => exact h1 rfl _ (fun s' i z => ih i (by omega)) (fun s' i z => ih i (by omega)) (fun r z => z) (fun s' z => z)
  exact fun {s} h' => ⟨m s + 1, go _ h' (Nat.le_refl _)⟩
/-! comprehensions -/
theorem cmW_fm {fc : α → W Bool} {fe : α → W β} (p : α → Bool) (h : α → β) {xs : List α} (hc : ∀ x, x ∈ xs → ∀ Ψ : Bool → Prop, Ψ (p x) → fc x Ψ) (he : ∀ x, x ∈ xs → p x = true → ∀ Ψ : β → Prop, Ψ (h x) → fe x Ψ) :
    ∀ {Φ : List β → Prop}, Φ ((xs.filter p).map h) → cmW fc fe xs Φ := by
  induction xs with
  | nil => exact fun q => q
  | cons x xs ih =>
    intro Φ q
    have ih' := fun {Φ} => ih (fun y hy => hc y (List.mem_cons_of_mem _ hy)) (fun y hy => he y (List.mem_cons_of_mem _ hy)) (Φ := Φ)
    refine hc x (List.mem_cons_self ..) _ ?_
    cases e : p x with
    | false =>
      rw [List.filter_cons_of_neg (by simp [e])] at q
      exact ih' q
    | true =>
      rw [List.filter_cons_of_pos e] at q
      exact he x (List.mem_cons_self ..) e _ (ih' q)
theorem cmW_map {fe : α → W β} (h : α → β) {xs : List α} (he : ∀ x, x ∈ xs → ∀ Ψ : β → Prop, Ψ (h x) → fe x Ψ) {Φ : List β → Prop} (q : Φ (xs.map h)) : cmW (fun _ => ret true) fe xs Φ :=
  cmW_fm (fun _ => true) h (fun _ _ _ z => z) (fun x hx _ => he x hx) (by rw [List.filter_eq_self.mpr fun _ _ => rfl]; exact q)
theorem cmW_all {fe : α → W β} (P : β → Prop) {xs : List α} (he : ∀ x, x ∈ xs → ∀ Ψ : β → Prop, (∀ y, P y → Ψ y) → fe x Ψ) :
    ∀ {Φ : List β → Prop}, (∀ ys : List β, ys.length = xs.length → (∀ y ∈ ys, P y) → Φ ys) → cmW (fun _ => ret true) fe xs Φ := by
  induction xs with
  | nil => exact fun q => q [] rfl (fun _ h => nomatch h)
  | cons x xs ih =>
    intro Φ q
    refine he x (List.mem_cons_self ..) _ fun y hy => ih (fun y hy => he y (List.mem_cons_of_mem _ hy)) fun ys hl hp => ?_
    exact q (y :: ys) (congrArg (· + 1) hl) fun z hz => by
      rcases List.mem_cons.mp hz with rfl | hz
      · exact hy
      · exact hp z hz
theorem if_join {c : Prop} [Decidable c] {A C : W (Fl R S1 B)} {wr : S1 → W (Fl R S B)} {Ψ : Fl R S B → Prop} (I : S1 → Prop)
    (hA : c → ∀ Θ : Fl R S1 B → Prop, (∀ s, I s → Θ (.nx s)) → (∀ r, Ψ (.rt r) → Θ (.rt r)) → (∀ b, Ψ (.bk b) → Θ (.bk b)) → (∀ b, Ψ (.ct b) → Θ (.ct b)) → A Θ)
    (hC : ¬ c → ∀ Θ : Fl R S1 B → Prop, (∀ s, I s → Θ (.nx s)) → (∀ r, Ψ (.rt r) → Θ (.rt r)) → (∀ b, Ψ (.bk b) → Θ (.bk b)) → (∀ b, Ψ (.ct b) → Θ (.ct b)) → C Θ)
    (hK : ∀ s, I s → wr s Ψ) : (if c then A else C) fun o => thn' wr o Ψ := by
  split
  · rename_i h
    exact hA h _ hK (fun _ z => z) (fun _ z => z) (fun _ z => z)
  · rename_i h
    exact hC h _ hK (fun _ z => z) (fun _ z => z) (fun _ z => z)
theorem wCat_ok {s t : Tx} {Φ : Tx → Prop} (h : s.length + t.length ≤ sizeLine) (q : Φ (s ++ t)) : wCat s t Φ := ⟨h, q⟩
theorem wMod_ok {x y : Int} {Φ : Int → Prop} (h : y ≠ 0) (q : Φ (x.fmod y)) : wMod x y Φ := ⟨h, q⟩
theorem wDiv_ok {x y : Int} {Φ : Int → Prop} (h : y ≠ 0) (h2 : y.natAbs < 1073741824) (q : Φ (x.fdiv y)) : wDiv x y Φ := ⟨⟨h, h2⟩, q⟩
theorem wMul_okL {x y : Int} {Φ : Int → Prop} (h : -(2 ^ 64) < x ∧ x < 2 ^ 64) (q : Φ (x * y)) : wMul x y Φ := ⟨.inl h, q⟩
theorem wMul_okR {x y : Int} {Φ : Int → Prop} (h : -(2 ^ 64) < y ∧ y < 2 ^ 64) (q : Φ (x * y)) : wMul x y Φ := ⟨.inr h, q⟩
end
end Dt
namespace Dt
open PySem PySem.Spec PyProof.Rows L2
section
variable {α β R S B S1 : Type}
theorem loopN_inv {c : S → Bool} {g : S → S} (I : S → Prop) (h : ∀ s, I s → c s = true → I (g s)) : ∀ (n : Nat) {s}, I s → I (loopN c g n s)
  | 0, _, hs => hs
  | n + 1, s, hs => by
    rw [loopN_succ]
    cases e : c s with
    | false => exact hs
    | true => exact loopN_inv I h n (h s hs e)
theorem foldl_inv {g : S → α → S} {xs : List α} (I : S → Prop) (h : ∀ s x, x ∈ xs → I s → I (g s x)) : ∀ {s}, I s → I (xs.foldl g s) := by
  induction xs with
  | nil => exact fun hs => hs
  | cons x xs ih => exact fun hs => ih (fun s y hy => h s y (List.mem_cons_of_mem _ hy)) (h _ x (List.mem_cons_self ..) hs)
theorem wIx_getD {xs : List α} {i : Int} {d : α} {Φ : α → Prop} (h0 : 0 ≤ i) (h1 : i < xs.length) (q : Φ (xs.getD i.toNat d)) : wIx xs i Φ := by
  have e : i = ((i.toNat : Nat) : Int) := by omega
  have hl : i.toNat < xs.length := by omega
  rw [e]
  refine wIx_nat hl ?_
  rw [List.getD_eq_getElem?_getD, List.getElem?_eq_getElem hl] at q
  exact q
theorem getD_all {xs : List α} {d : α} (P : α → Prop) (hd : P d) (h : ∀ x ∈ xs, P x) (i : Nat) : P (xs.getD i d) := by
  rw [List.getD_eq_getElem?_getD]
  cases e : xs[i]? with
  | none => exact hd
  | some x => exact h x (List.mem_of_getElem? e)
theorem cut_drop (xs : List α) (k : Nat) : cut xs (some (k : Int)) none = xs.drop k := by
  unfold cut
  rw [HT.sIx_nat, HT.sIx_none]
  by_cases h : k ≤ xs.length
  · rw [Nat.min_eq_left h]
    exact List.take_of_length_le (by rw [List.length_drop]; exact Nat.le_refl _)
  · rw [Nat.min_eq_right (by omega), Nat.sub_self, List.take_zero, List.drop_eq_nil_of_le (by omega)]
theorem cut_take (xs : List α) (k : Nat) : cut xs none (some (k : Int)) = xs.take k := by
  unfold cut
  rw [HT.sIx_nat, HT.sIx_none, List.drop_zero, Nat.sub_zero]
  by_cases h : k ≤ xs.length
  · rw [Nat.min_eq_left h]
  · rw [Nat.min_eq_right (by omega), List.take_of_length_le (Nat.le_refl _), List.take_of_length_le (by omega)]
theorem fdiv_nn (x : Int) {y : Int} (h : 0 ≤ y) : x.fdiv y = x / y := Int.fdiv_eq_ediv_of_nonneg x h
theorem fmod_nn (x : Int) {y : Int} (h : 0 ≤ y) : x.fmod y = x % y := Int.fmod_eq_emod_of_nonneg x h
theorem ok_tx {t : Tx} (n : Nat) (h : t.length ≤ 1000000) (hc : ∀ c ∈ t, c < 16 ^ 8) : okD n (eS t) := by
  have e : sizeLine = 16777216 := by decide
  have z : (reprText ⟨t.toArray⟩).length ≤ sizeLine := by
    have := PySem.StrLaws.reprText_len ⟨t.toArray⟩ (by simpa using hc)
    have hl : (⟨t.toArray⟩ : Str).length = t.length := by simp [Str.length]
    omega
  cases n <;> exact z
theorem ok_int {i : Int} (n : Nat) (h : i.natAbs < 10 ^ 40) : okD n (.int i) := by
  cases n <;> exact log2_of h
end
end Dt
/-! Dt17: the law's cells and digits. -/
namespace Dt
open PySem PySem.Spec PyProof.Rows L2
def b_law_cell (a_script : List Int) (a_k : Int) : W (Fl (Int) Empty Empty) :=
  bnd (bnd (ret a_k) fun x2 => bnd (bnd (ret a_script) fun x1 => ret (x1.length : Int)) fun y3 => ret (decide (x2 < y3))) fun t4 => if t4 then bnd (bnd (bnd (ret a_script) fun x5 => bnd (ret a_k) fun i6 => wIx x5 i6) fun r7 => ret (.rt r7)) lv else (bnd (ret (0 : Int)) fun r8 => ret (.rt r8))
def w_law_cell (a_script : List Int) (a_k : Int) : W (Int) := bnd (b_law_cell a_script a_k) fend
def b_law_digits (a_script : List Int) (a_first : Int) (a_last : Int) : W (Fl (List (Int)) Empty Empty) :=
  bnd (ret ([] : List (Int))) fun digits1 => bnd (bnd (ret a_first) fun x2 => bnd (ret a_last) fun y3 => wRng x2 y3) fun xs74 => bnd (frW (fun (s4 : (List (Int))) x5 => bnd (bnd (ret a_script) fun q7 => bnd (ret x5) fun q8 => cl (w_law_cell q7 q8)) fun cell6 => bnd (bnd (ret cell6) fun x9 => bnd (ret (0 : Int)) fun y10 => ret (decide (x9 < y10))) fun t11 => bnd (if t11 then (bnd (bnd (ret (1 : Int)) fun x16 => bnd (bnd (ret (2 : Int)) fun x14 => bnd (ret cell6) fun y15 => wMul x14 y15) fun y17 => ret (x16 - y17)) fun cell13 => ret (.nx cell13)) else (ret (.nx cell6))) (thn' fun (s12 : (Int)) => bnd (bnd (ret s12) fun x20 => bnd (bnd (ret (10 : Int)) fun x18 => bnd (ret (18 : Int)) fun y19 => wPow x18 y19) fun y21 => ret (decide (y21 ≤ x20))) fun t22 => bnd (if t22 then (bnd (bnd (ret (60 : Int)) fun x24 => wRng 0 x24) fun xs38 => bnd (frW (fun (s25 : (List (Int)) × (Int)) x26 => bnd (bnd (ret s25.2) fun x27 => bnd (ret (0 : Int)) fun y28 => ret (decide (y28 < x27))) fun t29 => bnd (if t29 then (bnd (bnd (ret s25.2) fun x31 => bnd (ret (1000 : Int)) fun y32 => wMod x31 y32) fun y33 => grd (s25.1.length < sizeLine) (bnd (bnd (ret s25.2) fun x35 => bnd (ret (1000 : Int)) fun y36 => wDiv x35 y36) fun cell34 => ret (.nx ((s25.1 ++ [y33]), cell34)))) else (ret (.nx (s25.1, s25.2)))) (thn' fun (s30 : (List (Int)) × (Int)) => ret (.nx (s30.1, s30.2)))) xs38 (s4, s12)) (thnL fun (s37 : (List (Int)) × (Int)) => ret (.nx (s37.1, s37.2)))) else (bnd (bnd (bnd (bnd (bnd (ret s12) fun x40 => bnd (ret (48271 : Int)) fun y41 => wMul x40 y41) fun x44 => bnd (bnd (ret x5) fun x42 => bnd (ret (69621 : Int)) fun y43 => wMul x42 y43) fun y45 => ret (x44 + y45)) fun x46 => bnd (ret (11 : Int)) fun y47 => ret (x46 + y47)) fun x48 => bnd (ret (2147483647 : Int)) fun y49 => wMod x48 y49) fun seed39 => bnd (bnd (ret (12 : Int)) fun x50 => wRng 0 x50) fun xs70 => bnd (frW (fun (s51 : (List (Int)) × (Int)) x52 => bnd (bnd (bnd (bnd (bnd (ret s51.2) fun x54 => bnd (ret (16807 : Int)) fun y55 => wMul x54 y55) fun x58 => bnd (bnd (ret (7 : Int)) fun x56 => bnd (ret x52) fun y57 => wMul x56 y57) fun y59 => ret (x58 + y59)) fun x60 => bnd (ret (1 : Int)) fun y61 => ret (x60 + y61)) fun x62 => bnd (ret (2147483647 : Int)) fun y63 => wMod x62 y63) fun seed53 => bnd (bnd (bnd (ret seed53) fun x64 => bnd (ret (997 : Int)) fun y65 => wDiv x64 y65) fun x66 => bnd (ret (1000 : Int)) fun y67 => wMod x66 y67) fun y68 => grd (s51.1.length < sizeLine) (ret (.nx ((s51.1 ++ [y68]), seed53)))) xs70 (s4, seed39)) (thnL fun (s69 : (List (Int)) × (Int)) => ret (.nx (s69.1, s12))))) (thn' fun (s23 : (List (Int)) × (Int)) => ret (.nx s23.1)))) xs74 digits1) (thnL fun (s71 : (List (Int))) => bnd (ret s71) fun r73 => ret (.rt r73))
def w_law_digits (a_script : List Int) (a_first : Int) (a_last : Int) : W (List (Int)) := bnd (b_law_digits a_script a_first a_last) fend

theorem cell_ok {ns : List Int} {k : Int} {Φ : Int → Prop} (hk : 0 ≤ k) (q : ∀ x, Φ x) : w_law_cell ns k Φ := by
  show b_law_cell ns k (fun o => fend o Φ)
  unfold b_law_cell
  simp only [ap_bnd, ap_ret, ap_grd, ap_and, ap_or, ap_ite, ap_thn, ap_thn_rt, ap_thnL, ap_thnL_rt, ap_lv, ap_fend, decide_eq_true_eq, Bool.false_eq_true, if_false, if_true, Bool.not_true, Bool.not_false, Bool.not_eq_true, true_and]
  split
  · rename_i h
    have e : k = ((k.toNat : Nat) : Int) := by omega
    rw [e]
    exact wIx_nat (by omega) (q _)
  · exact q _
theorem mem_rng {lo hi x : Int} (h : x ∈ rng lo hi) : lo ≤ x ∧ x < hi := by
  unfold rng at h
  rw [List.mem_map] at h
  obtain ⟨i, hi, rfl⟩ := h
  rw [List.mem_range] at hi
  omega
theorem wRng_of {lo hi : Int} {Φ : List Int → Prop} (h1 : -(2 ^ 62) ≤ lo) (h2 : hi - lo ≤ 16777216) (h3 : hi < 2 ^ 62) (h4 : lo < 2 ^ 62) (h5 : -(2 ^ 62) ≤ hi) (q : Φ (rng lo hi)) : wRng lo hi Φ := ⟨⟨h1, h2, h3, h4, h5⟩, q⟩
theorem digits_ok {ns : List Int} {Φ : List Int → Prop} (q : ∀ ds : List Int, ds.length ≤ 1440 → Φ ds) : w_law_digits ns 0 24 Φ := by
  have hz : 1500 < sizeLine := by decide
  show b_law_digits ns 0 24 (fun o => fend o Φ)
  unfold b_law_digits
  simp only [ap_bnd, ap_ret, ap_grd, ap_and, ap_or, ap_ite, ap_thn, ap_thn_rt, ap_thnL, ap_thnL_rt, ap_lv, ap_fend, decide_eq_true_eq, Bool.false_eq_true, if_false, if_true, Bool.not_true, Bool.not_false, Bool.not_eq_true, true_and]
  refine wRng_of (by decide) (by decide) (by decide) (by decide) (by decide) ?_
  refine frW_inv (fun i (s : List Int) => s.length ≤ 60 * i ∧ i ≤ 24) (fun i s x hx hI Ψ hn _ _ _ => ?_) (fun s hI => ?_) ⟨Nat.le_refl _, by decide⟩
  · have hi : i < 24 := by
      have := (List.getElem?_eq_some_iff.mp hx).1
      rw [rng_len] at this
      omega
    have hx0 := mem_rng (List.mem_of_getElem? hx)
    simp only [ap_bnd, ap_ret, ap_grd, ap_and, ap_or, ap_thn, ap_thn_rt, ap_thnL, ap_thnL_rt, ap_lv, ap_fend, decide_eq_true_eq, Bool.false_eq_true, if_false, if_true, Bool.not_true, Bool.not_false, Bool.not_eq_true, true_and]
    refine le_cl (cell_ok hx0.1 fun cell => ?_)
    refine if_join (fun _ => True) (fun _ Θ h _ _ _ => ?_) (fun _ Θ h _ _ _ => h _ trivial) fun cell _ => ?_
    · simp only [ap_bnd, ap_ret, ap_grd, ap_and, ap_or, ap_thn, ap_thn_rt, ap_thnL, ap_thnL_rt, ap_lv, ap_fend, decide_eq_true_eq, Bool.false_eq_true, if_false, if_true, Bool.not_true, Bool.not_false, Bool.not_eq_true, true_and]
      exact wMul_okL (by decide) (h _ trivial)
    simp only [ap_bnd, ap_ret, ap_grd, ap_and, ap_or, ap_thn, ap_thn_rt, ap_thnL, ap_thnL_rt, ap_lv, ap_fend, decide_eq_true_eq, Bool.false_eq_true, if_false, if_true, Bool.not_true, Bool.not_false, Bool.not_eq_true, true_and]
    refine ⟨⟨by decide, by decide, by decide⟩, ?_⟩
    refine if_join (fun s => s.1.length ≤ 60 * (i + 1)) (fun _ Θ h _ _ _ => ?_) (fun _ Θ h _ _ _ => ?_) fun s hs => hn _ ⟨hs, by omega⟩
    · simp only [ap_bnd, ap_ret, ap_grd, ap_and, ap_or, ap_thn, ap_thn_rt, ap_thnL, ap_thnL_rt, ap_lv, ap_fend, decide_eq_true_eq, Bool.false_eq_true, if_false, if_true, Bool.not_true, Bool.not_false, Bool.not_eq_true, true_and]
      refine wRng_of (by decide) (by decide) (by decide) (by decide) (by decide) ?_
      refine frW_inv (fun j (s : List Int × Int) => s.1.length ≤ 60 * i + j ∧ j ≤ 60) (fun j s x hx hI Ψ hn _ _ _ => ?_) (fun s hI => ?_) ⟨by have := hI.1; omega, by omega⟩
      · have hj : j < 60 := by
          have := (List.getElem?_eq_some_iff.mp hx).1
          rw [rng_len] at this
          omega
        simp only [ap_bnd, ap_ret, ap_grd, ap_and, ap_or, ap_thn, ap_thn_rt, ap_thnL, ap_thnL_rt, ap_lv, ap_fend, decide_eq_true_eq, Bool.false_eq_true, if_false, if_true, Bool.not_true, Bool.not_false, Bool.not_eq_true, true_and]
        refine if_join (fun s => s.1.length ≤ 60 * i + (j + 1)) (fun _ Θ h _ _ _ => ?_) (fun _ Θ h _ _ _ => h _ (by have := hI.1; show s.1.length ≤ _; omega)) fun s hs => hn _ ⟨hs, by omega⟩
        simp only [ap_bnd, ap_ret, ap_grd, ap_and, ap_or, ap_thn, ap_thn_rt, ap_thnL, ap_thnL_rt, ap_lv, ap_fend, decide_eq_true_eq, Bool.false_eq_true, if_false, if_true, Bool.not_true, Bool.not_false, Bool.not_eq_true, true_and]
        refine wMod_ok (by decide) ⟨by have := hI.1; omega, wDiv_ok (by decide) (by decide) (h _ ?_)⟩
        have := hI.1
        show (s.1 ++ [_]).length ≤ _
        rw [List.length_append, List.length_singleton]
        omega
      · refine h _ ?_
        have := hI.1
        rw [rng_len] at this
        show s.1.length ≤ _
        have e : ((60 : Int) - 0).toNat = 60 := by decide
        omega
    · simp only [ap_bnd, ap_ret, ap_grd, ap_and, ap_or, ap_thn, ap_thn_rt, ap_thnL, ap_thnL_rt, ap_lv, ap_fend, decide_eq_true_eq, Bool.false_eq_true, if_false, if_true, Bool.not_true, Bool.not_false, Bool.not_eq_true, true_and]
      refine wMul_okR (by decide) (wMul_okR (by decide) (wMod_ok (by decide) ?_))
      refine wRng_of (by decide) (by decide) (by decide) (by decide) (by decide) ?_
      refine frW_inv (fun j (s : List Int × Int) => s.1.length ≤ 60 * i + j ∧ j ≤ 12) (fun j s x hx hI Ψ hn _ _ _ => ?_) (fun s hI => ?_) ⟨by have := hI.1; omega, by omega⟩
      · have hj : j < 12 := by
          have := (List.getElem?_eq_some_iff.mp hx).1
          rw [rng_len] at this
          omega
        simp only [ap_bnd, ap_ret, ap_grd, ap_and, ap_or, ap_thn, ap_thn_rt, ap_thnL, ap_thnL_rt, ap_lv, ap_fend, decide_eq_true_eq, Bool.false_eq_true, if_false, if_true, Bool.not_true, Bool.not_false, Bool.not_eq_true, true_and]
        refine wMul_okR (by decide) (wMul_okL (by decide) (wMod_ok (by decide) (wDiv_ok (by decide) (by decide) (wMod_ok (by decide) ⟨by have := hI.1; omega, hn _ ⟨?_, by omega⟩⟩))))
        have := hI.1
        show (s.1 ++ [_]).length ≤ _
        rw [List.length_append, List.length_singleton]
        omega
      · refine h _ ?_
        have := hI.1
        rw [rng_len] at this
        show s.1.length ≤ _
        have e : ((12 : Int) - 0).toNat = 12 := by decide
        omega
  · have := hI.1
    rw [rng_len] at this
    exact q _ (by have e : ((24 : Int) - 0).toNat = 24 := by decide
                  omega)
end Dt
namespace K
open PySem PySem.Spec PyProof.Rows L2 Dt
def topS (i : Nat) : Stmt := PySem.Challenge.pw_printlands_k70_whole_roman_figures_and_l.main.body.getD i (.Pass ⟨0, 0, 0, 0⟩)
abbrev st_law_cell : Stmt := topS 8
abbrev n_law_cell : List Str := ["script", "k"]
theorem sc_law_cell : FnScope n_law_cell ["script", "k"] (defScope st_law_cell) := ⟨rfl, rfl, rfl, by decide +kernel, rfl, by decide +kernel, by decide +kernel⟩
abbrev st_law_digits : Stmt := topS 9
abbrev n_law_digits : List Str := ["script", "first", "last", "digits", "k", "cell", "turn", "seed"]
theorem sc_law_digits : FnScope n_law_digits ["script", "first", "last"] (defScope st_law_digits) := ⟨rfl, rfl, rfl, by decide +kernel, rfl, by decide +kernel, by decide +kernel⟩
abbrev st_law_draw : Stmt := topS 10
abbrev n_law_draw : List Str := ["box", "many"]
theorem sc_law_draw : FnScope n_law_draw ["box", "many"] (defScope st_law_draw) := ⟨rfl, rfl, rfl, by decide +kernel, rfl, by decide +kernel, by decide +kernel⟩
abbrev st_law_pick : Stmt := topS 11
abbrev n_law_pick : List Str := ["box", "row"]
theorem sc_law_pick : FnScope n_law_pick ["box", "row"] (defScope st_law_pick) := ⟨rfl, rfl, rfl, by decide +kernel, rfl, by decide +kernel, by decide +kernel⟩
abbrev st_law_same : Stmt := topS 12
abbrev n_law_same : List Str := ["told", "due", "k"]
theorem sc_law_same : FnScope n_law_same ["told", "due"] (defScope st_law_same) := ⟨rfl, rfl, rfl, by decide +kernel, rfl, by decide +kernel, by decide +kernel⟩
abbrev st_roman : Stmt := topS 2
abbrev n_roman : List Str := ["number", "found", "size", "text"]
theorem sc_roman : FnScope n_roman ["number"] (defScope st_roman) := ⟨rfl, rfl, rfl, by decide +kernel, rfl, by decide +kernel, by decide +kernel⟩
abbrev st_roman_number : Stmt := topS 3
abbrev n_roman_number : List Str := ["text", "found", "left", "size", "part"]
theorem sc_roman_number : FnScope n_roman_number ["text"] (defScope st_roman_number) := ⟨rfl, rfl, rfl, by decide +kernel, rfl, by decide +kernel, by decide +kernel⟩
abbrev st_letters_number : Stmt := topS 4
abbrev n_letters_number : List Str := ["number", "found"]
theorem sc_letters_number : FnScope n_letters_number ["number"] (defScope st_letters_number) := ⟨rfl, rfl, rfl, by decide +kernel, rfl, by decide +kernel, by decide +kernel⟩
abbrev st_number_of_letters : Stmt := topS 5
abbrev n_number_of_letters : List Str := ["text", "letter", "found", ".0"]
theorem sc_number_of_letters : FnScope n_number_of_letters ["text"] (defScope st_number_of_letters) := ⟨rfl, rfl, rfl, by decide +kernel, rfl, by decide +kernel, by decide +kernel⟩
abbrev st_padded : Stmt := topS 6
abbrev n_padded : List Str := ["number", "size"]
theorem sc_padded : FnScope n_padded ["number", "size"] (defScope st_padded) := ⟨rfl, rfl, rfl, by decide +kernel, rfl, by decide +kernel, by decide +kernel⟩
abbrev st_law_roman : Stmt := topS 13
abbrev n_law_roman : List Str := ["number", "ones", "tens", "hundreds"]
theorem sc_law_roman : FnScope n_law_roman ["number"] (defScope st_law_roman) := ⟨rfl, rfl, rfl, by decide +kernel, rfl, by decide +kernel, by decide +kernel⟩
abbrev st_law_read : Stmt := topS 14
abbrev n_law_read : List Str := ["text", "worths", "total", "k", "worth", ".0", "sign"]
theorem sc_law_read : FnScope n_law_read ["text"] (defScope st_law_read) := ⟨rfl, rfl, rfl, by decide +kernel, rfl, by decide +kernel, by decide +kernel⟩
abbrev st_law_lettered : Stmt := topS 15
abbrev n_law_lettered : List Str := ["number", "found", "size", "before", "many", "turn", "left"]
theorem sc_law_lettered : FnScope n_law_lettered ["number"] (defScope st_law_lettered) := ⟨rfl, rfl, rfl, by decide +kernel, rfl, by decide +kernel, by decide +kernel⟩
abbrev st_law : Stmt := topS 16
abbrev n_law : List Str := ["script", "box", "turn", "number", "text", "at", "sign", "bent", "wild", "size", "plain", ".0", "k", "bad"]
theorem sc_law : FnScope n_law ["script"] (defScope st_law) := ⟨rfl, rfl, rfl, by decide +kernel, rfl, by decide +kernel, by decide +kernel⟩
def g_ROMANS : List (((Int) × (Tx))) := [((1000 : Int), ([109] : Tx)), ((900 : Int), ([99, 109] : Tx)), ((500 : Int), ([100] : Tx)), ((400 : Int), ([99, 100] : Tx)), ((100 : Int), ([99] : Tx)), ((90 : Int), ([120, 99] : Tx)), ((50 : Int), ([108] : Tx)), ((40 : Int), ([120, 108] : Tx)), ((10 : Int), ([120] : Tx)), ((9 : Int), ([105, 120] : Tx)), ((5 : Int), ([118] : Tx)), ((4 : Int), ([105, 118] : Tx)), ((1 : Int), ([105] : Tx))]
theorem s_law_cell {X : Cx} {M : Md} {G : Gh} (c : Ct X 0 M n_law_cell (defScope st_law_cell) fnT) (bl : Bl M)  (a_script : List Int) (a_k : Int) :
    DS X G [.fr (D.scr a_script), .fr (D.int a_k)] (defBody st_law_cell) D.int eE eE (b_law_cell a_script a_k) := by
  unfold b_law_cell
  exact ds_ifx ((dc_lt ((de_var (enc := D.int) (y := a_k) (i := 1) c.s rfl (.inl rfl) rfl).db) ((de_lenScr (c.mg bl.len) (c.gl rfl) ((de_var (enc := D.scr) (y := a_script) (i := 0) c.s rfl (.inl rfl) rfl).db)).db)).ct) (ds_ret (de_ixScr ((de_var (enc := D.scr) (y := a_script) (i := 0) c.s rfl (.inl rfl) rfl).db) ((de_var (enc := D.int) (y := a_k) (i := 1) c.s rfl (.inl rfl) rfl).db))) (ds_ret (de_int))
theorem s_law_digits {X : Cx} {M : Md} {G : Gh} (c : Ct X 1 M n_law_digits (defScope st_law_digits) fnT) (bl : Bl M) (F_law_cell : FnAt M 1 "_law_cell" 2 (d2 D.scr D.int D.int w_law_cell)) (a_script : List Int) (a_first : Int) (a_last : Int) :
    DS X G [.fr (D.scr a_script), .fr (D.int a_first), .fr (D.int a_last), .un, .un, .un, .un, .un] (defBody st_law_digits) (eL D.int) eE eE (b_law_digits a_script a_first a_last) := by
  unfold b_law_digits
  exact ds_asgL (ps_as (i := 3) c.g c.s rfl (.inl rfl) (c.lc rfl) rfl) (dl_list ((dh_nil (enc := D.int)))) fun digits1 => ds_for (e1 := fun (s4 : (List (Int))) => [.fr (D.scr a_script), .fr (D.int a_first), .fr (D.int a_last), .ow ((eL D.int) s4), .un, .un, .un, .un]) (s0 := digits1) c.g (di_rng2 (c.gl rfl) (c.mg bl.range) ((de_var (enc := D.int) (y := a_first) (i := 1) c.s rfl (.inl rfl) rfl).db) ((de_var (enc := D.int) (y := a_last) (i := 2) c.s rfl (.inl rfl) rfl).db)) (.k _ (.k _ (.k _ (.k _ (.k _ (.k _ (.k _ (.k _ (.nil))))))))) (fun x5 => tg_name (i := 4) c.g c.s rfl (.inl rfl) (c.lc rfl)) (fun s4 x5 => ds_asgQ (ps_as (i := 5) c.g c.s rfl (.inl rfl) (c.lc rfl) rfl) (de_call2 (c.fn F_law_cell) c.g (by decide) (c.gl rfl) (de_var (enc := D.scr) (y := a_script) (i := 0) c.s rfl (.inl rfl) rfl) (de_var (enc := D.int) (y := x5) (i := 4) c.s rfl (.inl rfl) rfl)) fun cell6 => ds_if (e1 := fun (s12 : (Int)) => [.fr (D.scr a_script), .fr (D.int a_first), .fr (D.int a_last), .ow ((eL D.int) s4), .fr (D.int x5), .fr (D.int s12), .un, .un]) ((dc_lt ((de_var (enc := D.int) (y := cell6) (i := 5) c.s rfl (.inl rfl) rfl).db) ((de_int).db)).ct) (ds_asgQ (ps_as (i := 5) c.g c.s rfl (.inl rfl) (c.lc rfl) rfl) (de_sub ((de_int).db) ((de_mul ((de_int).db) ((de_var (enc := D.int) (y := cell6) (i := 5) c.s rfl (.inl rfl) rfl).db)).db)) fun cell13 => ds_nil (s := cell13) (.k _ (.k _ (.k _ (.k _ (.k _ (.k _ (.k _ (.k _ (.nil)))))))))) (ds_nil (s := cell6) (.k _ (.k _ (.k _ (.k _ (.k _ (.k _ (.k _ (.k _ (.nil)))))))))) fun s12 => ds_if (e1 := fun (s23 : (List (Int)) × (Int)) => [.fr (D.scr a_script), .fr (D.int a_first), .fr (D.int a_last), .ow ((eL D.int) s23.1), .fr (D.int x5), .fr (D.int s23.2), .un, .un]) ((dc_ge ((de_var (enc := D.int) (y := s12) (i := 5) c.s rfl (.inl rfl) rfl).db) ((de_pow ((de_int).db) ((de_int).db)).db)).ct) (ds_for (e1 := fun (s25 : (List (Int)) × (Int)) => [.fr (D.scr a_script), .fr (D.int a_first), .fr (D.int a_last), .ow ((eL D.int) s25.1), .fr (D.int x5), .fr (D.int s25.2), .un, .un]) (s0 := (s4, s12)) c.g (di_rng1 (c.gl rfl) (c.mg bl.range) ((de_int).db)) (.k _ (.k _ (.k _ (.k _ (.k _ (.k _ (.k _ (.k _ (.nil))))))))) (fun x26 => tg_name (i := 6) c.g c.s rfl (.inl rfl) (c.lc rfl)) (fun s25 x26 => ds_if (e1 := fun (s30 : (List (Int)) × (Int)) => [.fr (D.scr a_script), .fr (D.int a_first), .fr (D.int a_last), .ow ((eL D.int) s30.1), .fr (D.int x5), .fr (D.int s30.2), .fr (D.int x26), .un]) ((dc_gt ((de_var (enc := D.int) (y := s25.2) (i := 5) c.s rfl (.inl rfl) rfl).db) ((de_int).db)).ct) (ds_append (ea := D.int) (xs := s25.1) (i := 3) c.s rfl (.inl rfl) rfl (de_mod ((de_int1 (c.mg bl.int) (c.gl rfl) ((de_var (enc := D.int) (y := s25.2) (i := 5) c.s rfl (.inl rfl) rfl).db)).db) ((de_int).db)) fun y33 => ds_asgQ (ps_as (i := 5) c.g c.s rfl (.inl rfl) (c.lc rfl) rfl) (de_div ((de_var (enc := D.int) (y := s25.2) (i := 5) c.s rfl (.inl rfl) rfl).db) ((de_int).db)) fun cell34 => ds_nil (s := ((s25.1 ++ [y33]), cell34)) (.k _ (.k _ (.k _ (.k _ (.k _ (.k _ (.k _ (.k _ (.nil)))))))))) (ds_nil (s := (s25.1, s25.2)) (.k _ (.k _ (.k _ (.k _ (.k _ (.k _ (.k _ (.k _ (.nil)))))))))) fun s30 => ds_nil (s := (s30.1, s30.2)) (.k _ (.k _ (.k _ (.k _ (.k _ (.k _ (.d _ (.k _ (.nil)))))))))) fun s37 => ds_nil (s := (s37.1, s37.2)) (.k _ (.k _ (.k _ (.k _ (.k _ (.k _ (.k _ (.k _ (.nil)))))))))) (ds_asgQ (ps_as (i := 7) c.g c.s rfl (.inl rfl) (c.lc rfl) rfl) (de_mod ((de_int1 (c.mg bl.int) (c.gl rfl) ((de_add ((de_add ((de_mul ((de_var (enc := D.int) (y := s12) (i := 5) c.s rfl (.inl rfl) rfl).db) ((de_int).db)).db) ((de_mul ((de_var (enc := D.int) (y := x5) (i := 4) c.s rfl (.inl rfl) rfl).db) ((de_int).db)).db)).db) ((de_int).db)).db)).db) ((de_int).db)) fun seed39 => ds_for (e1 := fun (s51 : (List (Int)) × (Int)) => [.fr (D.scr a_script), .fr (D.int a_first), .fr (D.int a_last), .ow ((eL D.int) s51.1), .fr (D.int x5), .fr (D.int s12), .un, .fr (D.int s51.2)]) (s0 := (s4, seed39)) c.g (di_rng1 (c.gl rfl) (c.mg bl.range) ((de_int).db)) (.k _ (.k _ (.k _ (.k _ (.k _ (.k _ (.k _ (.k _ (.nil))))))))) (fun x52 => tg_name (i := 6) c.g c.s rfl (.inl rfl) (c.lc rfl)) (fun s51 x52 => ds_asgQ (ps_as (i := 7) c.g c.s rfl (.inl rfl) (c.lc rfl) rfl) (de_mod ((de_int1 (c.mg bl.int) (c.gl rfl) ((de_add ((de_add ((de_mul ((de_var (enc := D.int) (y := s51.2) (i := 7) c.s rfl (.inl rfl) rfl).db) ((de_int).db)).db) ((de_mul ((de_int).db) ((de_var (enc := D.int) (y := x52) (i := 6) c.s rfl (.inl rfl) rfl).db)).db)).db) ((de_int).db)).db)).db) ((de_int).db)) fun seed53 => ds_append (ea := D.int) (xs := s51.1) (i := 3) c.s rfl (.inl rfl) rfl (de_mod ((de_int1 (c.mg bl.int) (c.gl rfl) ((de_div ((de_var (enc := D.int) (y := seed53) (i := 7) c.s rfl (.inl rfl) rfl).db) ((de_int).db)).db)).db) ((de_int).db)) fun y68 => ds_nil (s := ((s51.1 ++ [y68]), seed53)) (.k _ (.k _ (.k _ (.k _ (.k _ (.k _ (.d _ (.k _ (.nil)))))))))) fun s69 => ds_nil (s := (s69.1, s12)) (.k _ (.k _ (.k _ (.k _ (.k _ (.k _ (.k _ (.d _ (.nil)))))))))) fun s23 => ds_nil (s := s23.1) (.k _ (.k _ (.k _ (.k _ (.d _ (.d _ (.k _ (.k _ (.nil)))))))))) fun s71 => ds_wk (.k _ (.k _ (.k _ (.f _ (.k _ (.k _ (.k _ (.k _ (.nil))))))))) (ds_ret (de_var (enc := (eL D.int)) (y := s71) (i := 3) c.s rfl (.inl rfl) rfl))
theorem s_law_draw {X : Cx} {M : Md} {G : Gh} {k : Nat} (c : Ct X k M n_law_draw (defScope st_law_draw) fnT) (bl : Bl M) (a_many : Int) :
    DS X G [.ob, .fr (D.int a_many)] (defBody st_law_draw) D.int eE eE (b_draw a_many) := by
  unfold b_draw b_drawR
  exact ds_open c.g c.s (.inl rfl) fun G hG b => ds_ifx ((dc_gt ((de_bx1 ((de_var (enc := eBx) (y := b) (i := 0) c.s rfl (.inl rfl) rfl).db)).db) ((de_lenScr (c.mg bl.len) (c.gl rfl) ((de_bx0 ((de_var (enc := eBx) (y := b) (i := 0) c.s rfl (.inl rfl) rfl).db)).db)).db)).ct) (ds_ret (de_mod ((de_int1 (c.mg bl.int) (c.gl rfl) ((de_add ((de_mul ((de_bx1 ((de_var (enc := eBx) (y := b) (i := 0) c.s rfl (.inl rfl) rfl).db)).db) ((de_int).db)).db) ((de_int).db)).db)).db) ((de_var (enc := D.int) (y := a_many) (i := 1) c.s rfl (.inl rfl) rfl).db))) (ds_ret (de_mod ((de_int1 (c.mg bl.int) (c.gl rfl) ((de_ixScr ((de_bx0 ((de_var (enc := eBx) (y := b) (i := 0) c.s rfl (.inl rfl) rfl).db)).db) ((de_sub ((de_bx1 ((de_var (enc := eBx) (y := b) (i := 0) c.s rfl (.inl rfl) rfl).db)).db) ((de_int).db)).db)).db)).db) ((de_var (enc := D.int) (y := a_many) (i := 1) c.s rfl (.inl rfl) rfl).db)))
theorem s_law_pickD {X : Cx} {M : Md} {G : Gh} (c : Ct X 1 M n_law_pick (defScope st_law_pick) fnT) (bl : Bl M) (F_law_draw : FnBx M 1 "_law_draw" 1 (d1 D.int D.int w_law_draw)) (a_row : D) :
    DS X G [.ob, .fr (eD a_row)] (defBody st_law_pick) eD eE eE (b_pickD a_row) := by
  unfold b_pickD
  exact ds_ret (dv_ix ((de_var (enc := eD) (y := a_row) (i := 1) c.s rfl (.inl rfl) rfl).db) ((de_mod ((de_int1 (c.mg bl.int) (c.gl rfl) ((de_box1 (c.fb F_law_draw) c.g (by decide) c.s (i := 0) rfl (.inl rfl) rfl (c.gl rfl) (de_int)).db)).db) ((dv_len (c.mg bl.len) (c.gl rfl) ((de_var (enc := eD) (y := a_row) (i := 1) c.s rfl (.inl rfl) rfl).db)).db)).db))
theorem s_law_pickS {X : Cx} {M : Md} {G : Gh} (c : Ct X 1 M n_law_pick (defScope st_law_pick) fnT) (bl : Bl M) (F_law_draw : FnBx M 1 "_law_draw" 1 (d1 D.int D.int w_law_draw)) (a_row : Tx) :
    DS X G [.ob, .fr (eS a_row)] (defBody st_law_pick) eS eE eE (b_pickS a_row) := by
  unfold b_pickS
  exact ds_ret (de_ixS ((de_var (enc := eS) (y := a_row) (i := 1) c.s rfl (.inl rfl) rfl).db) ((de_mod ((de_int1 (c.mg bl.int) (c.gl rfl) ((de_box1 (c.fb F_law_draw) c.g (by decide) c.s (i := 0) rfl (.inl rfl) rfl (c.gl rfl) (de_int)).db)).db) ((de_lenS (c.mg bl.len) (c.gl rfl) ((de_var (enc := eS) (y := a_row) (i := 1) c.s rfl (.inl rfl) rfl).db)).db)).db))
theorem s_law_same {X : Cx} {M : Md} {G : Gh} {k : Nat} {w : D → D → W Bool} (c : Ct X k M n_law_same (defScope st_law_same) fnT) (bl : Bl M) (F_law_same : FnAt M k "_law_same" 2 (d2 eD eD D.bl w)) (a_told a_due : D) :
    DS X G [.fr (eD a_told), .fr (eD a_due), .un] (defBody st_law_same) D.bl eE eE (b_same w a_told a_due) := by
  unfold b_same
  exact ds_ifx ((dv_isN ((de_var (enc := eD) (y := a_due) (i := 1) c.s rfl (.inl rfl) rfl).db)).ct) (ds_ret ((dv_isN ((de_var (enc := eD) (y := a_told) (i := 0) c.s rfl (.inl rfl) rfl).db)).ce)) (ds_ifx ((dv_isB ((de_var (enc := eD) (y := a_due) (i := 1) c.s rfl (.inl rfl) rfl).db)).ct) (ds_ret ((dv_isB ((de_var (enc := eD) (y := a_told) (i := 0) c.s rfl (.inl rfl) rfl).db)).ce)) (ds_ifx ((dv_isB ((de_var (enc := eD) (y := a_due) (i := 1) c.s rfl (.inl rfl) rfl).db)).ct) (ds_ret ((dv_isB ((de_var (enc := eD) (y := a_told) (i := 0) c.s rfl (.inl rfl) rfl).db)).ce)) (ds_ifx (dt_val (dv_isi (T := "str") (c.mg bl.isinstance) (c.gl rfl) (c.mg bl.str) (c.gl rfl) ((de_var (enc := eD) (y := a_due) (i := 1) c.s rfl (.inl rfl) rfl).db) (by decide +kernel) (by decide +kernel))) (ds_ret (de_and (dv_isi (T := "str") (c.mg bl.isinstance) (c.gl rfl) (c.mg bl.str) (c.gl rfl) ((de_var (enc := eD) (y := a_told) (i := 0) c.s rfl (.inl rfl) rfl).db) (by decide +kernel) (by decide +kernel)) (de_one ((dc_eq c.g ((dv_repr (c.mg bl.repr) (c.gl rfl) ((de_var (enc := eD) (y := a_told) (i := 0) c.s rfl (.inl rfl) rfl).db)).db) ((dv_repr (c.mg bl.repr) (c.gl rfl) ((de_var (enc := eD) (y := a_due) (i := 1) c.s rfl (.inl rfl) rfl).db)).db)).ce)))) (ds_ifx (dt_val (dv_isi (T := "int") (c.mg bl.isinstance) (c.gl rfl) (c.mg bl.int) (c.gl rfl) ((de_var (enc := eD) (y := a_due) (i := 1) c.s rfl (.inl rfl) rfl).db) (by decide +kernel) (by decide +kernel))) (ds_ret (de_and (dv_isi (T := "int") (c.mg bl.isinstance) (c.gl rfl) (c.mg bl.int) (c.gl rfl) ((de_var (enc := eD) (y := a_told) (i := 0) c.s rfl (.inl rfl) rfl).db) (by decide +kernel) (by decide +kernel)) (de_and (de_not (dv_isi (T := "bool") (c.mg bl.isinstance) (c.gl rfl) (c.mg bl.bool) (c.gl rfl) ((de_var (enc := eD) (y := a_told) (i := 0) c.s rfl (.inl rfl) rfl).db) (by decide +kernel) (by decide +kernel))) (de_one ((dc_eq c.g ((dv_repr (c.mg bl.repr) (c.gl rfl) ((de_var (enc := eD) (y := a_told) (i := 0) c.s rfl (.inl rfl) rfl).db)).db) ((dv_repr (c.mg bl.repr) (c.gl rfl) ((de_var (enc := eD) (y := a_due) (i := 1) c.s rfl (.inl rfl) rfl).db)).db)).ce))))) (ds_ifx ((dw_or ((dw_and (dt_val (dv_isi (T := "tuple") (c.mg bl.isinstance) (c.gl rfl) (c.mg bl.tuple) (c.gl rfl) ((de_var (enc := eD) (y := a_due) (i := 1) c.s rfl (.inl rfl) rfl).db) (by decide +kernel) (by decide +kernel))) (dw_and1 (dt_not (dt_val (dv_isi (T := "tuple") (c.mg bl.isinstance) (c.gl rfl) (c.mg bl.tuple) (c.gl rfl) ((de_var (enc := eD) (y := a_told) (i := 0) c.s rfl (.inl rfl) rfl).db) (by decide +kernel) (by decide +kernel)))))).t) (dw_or1 ((dw_and (dt_val (dv_isi (T := "list") (c.mg bl.isinstance) (c.gl rfl) (c.mg bl.list) (c.gl rfl) ((de_var (enc := eD) (y := a_due) (i := 1) c.s rfl (.inl rfl) rfl).db) (by decide +kernel) (by decide +kernel))) (dw_and1 (dt_not (dt_val (dv_isi (T := "list") (c.mg bl.isinstance) (c.gl rfl) (c.mg bl.list) (c.gl rfl) ((de_var (enc := eD) (y := a_told) (i := 0) c.s rfl (.inl rfl) rfl).db) (by decide +kernel) (by decide +kernel)))))).t))).t) (ds_ret (de_bl)) (ds_ifx ((dc_neI ((dv_len (c.mg bl.len) (c.gl rfl) ((de_var (enc := eD) (y := a_told) (i := 0) c.s rfl (.inl rfl) rfl).db)).db) ((dv_len (c.mg bl.len) (c.gl rfl) ((de_var (enc := eD) (y := a_due) (i := 1) c.s rfl (.inl rfl) rfl).db)).db)).ct) (ds_ret (de_bl)) (ds_for (e1 := fun (s34 : Unit) => [.fr (eD a_told), .fr (eD a_due), .un]) (s0 := ()) c.g (di_rng1 (c.gl rfl) (c.mg bl.range) ((dv_len (c.mg bl.len) (c.gl rfl) ((de_var (enc := eD) (y := a_due) (i := 1) c.s rfl (.inl rfl) rfl).db)).db)) (.k _ (.k _ (.k _ (.nil)))) (fun x35 => tg_name (i := 2) c.g c.s rfl (.inl rfl) (c.lc rfl)) (fun s34 x35 => ds_ifx (dt_not (dt_val (de_call2 (c.fn F_law_same) c.g (Nat.le_refl _) (c.gl rfl) (dv_ix ((de_var (enc := eD) (y := a_told) (i := 0) c.s rfl (.inl rfl) rfl).db) ((de_var (enc := D.int) (y := x35) (i := 2) c.s rfl (.inl rfl) rfl).db)) (dv_ix ((de_var (enc := eD) (y := a_due) (i := 1) c.s rfl (.inl rfl) rfl).db) ((de_var (enc := D.int) (y := x35) (i := 2) c.s rfl (.inl rfl) rfl).db))))) (ds_ret (de_bl)) (ds_nil (s := ()) (.k _ (.k _ (.d _ (.nil)))))) fun s49 => ds_ret (de_bl))))))))
def b_roman (a_number : Int) : W (Fl (Tx) Empty Empty) :=
  bnd (ret ([] : Tx)) fun found1 => bnd (ret g_ROMANS) fun xs15 => bnd (frW (fun (s2 : (Int) × (Tx)) x3 => bnd (wh (fun (s4 : (Int) × (Tx)) => bnd (ret s4.1) fun x6 => bnd (ret x3.1) fun y7 => ret (decide (y7 ≤ x6))) (fun (s4 : (Int) × (Tx)) => bnd (ret x3.2) fun z8 => bnd (wCat s4.2 z8) fun found9 => bnd (ret x3.1) fun z10 => bnd (ret (s4.1 - z10)) fun number11 => ret (.nx (number11, found9))) (s2.1, s2.2)) (thnL fun (s12 : (Int) × (Tx)) => ret (.nx (s12.1, s12.2)))) xs15 (a_number, found1)) (thnL fun (s13 : (Int) × (Tx)) => bnd (ret s13.2) fun r14 => ret (.rt r14))
def w_roman (a_number : Int) : W (Tx) := bnd (b_roman a_number) fend
theorem s_roman {X : Cx} {M : Md} {G : Gh} (c : Ct X 0 M n_roman (defScope st_roman) fnT) (bl : Bl M) (G_ROMANS : GbAt M "ROMANS" ((eKt (ek2 D.int eS)) g_ROMANS)) (a_number : Int) :
    DS X G [.fr (D.int a_number), .un, .un, .un] (defBody st_roman) eS eE eE (b_roman a_number) := by
  unfold b_roman
  exact ds_asgQ (ps_as (i := 1) c.g c.s rfl (.inl rfl) (c.lc rfl) rfl) (de_tx (l := ([] : Tx))) fun found1 => ds_for (e1 := fun (s2 : (Int) × (Tx)) => [.fr (D.int s2.1), .fr (eS s2.2), .un, .un]) (s0 := (a_number, found1)) c.g (di_kt (de_glob (c.gl rfl) (c.gb G_ROMANS))) (.k _ (.k _ (.k _ (.k _ (.nil))))) (fun x3 => tg_ktup c.g (tgs_cons (tg_name (i := 2) c.g c.s rfl (.inl rfl) (c.lc rfl)) (tgs_cons (tg_name (i := 3) c.g c.s rfl (.inl rfl) (c.lc rfl)) (tgs_nil)))) (fun s2 x3 => ds_while (e1 := fun (s4 : (Int) × (Tx)) => [.fr (D.int s4.1), .fr (eS s4.2), .fr (D.int x3.1), .fr (eS x3.2)]) (s0 := (s2.1, s2.2)) c.g (.k _ (.k _ (.k _ (.k _ (.nil))))) (fun s4 => (dc_ge ((de_var (enc := D.int) (y := s4.1) (i := 0) c.s rfl (.inl rfl) rfl).db) ((de_var (enc := D.int) (y := x3.1) (i := 2) c.s rfl (.inl rfl) rfl).db)).ct) (fun s4 => ds_augT (y := s4.2) (i := 1) c.g c.s rfl (.inl rfl) (c.lc rfl) rfl ((de_var (enc := eS) (y := x3.2) (i := 3) c.s rfl (.inl rfl) rfl).db) fun found9 => ds_augS (y := s4.1) (i := 0) c.g c.s rfl (.inl rfl) (c.lc rfl) rfl ((de_var (enc := D.int) (y := x3.1) (i := 2) c.s rfl (.inl rfl) rfl).db) fun number11 => ds_nil (s := (number11, found9)) (.k _ (.k _ (.k _ (.k _ (.nil)))))) fun s12 => ds_nil (s := (s12.1, s12.2)) (.k _ (.k _ (.d _ (.d _ (.nil)))))) fun s13 => ds_ret (de_var (enc := eS) (y := s13.2) (i := 1) c.s rfl (.inl rfl) rfl)
def b_roman_number (a_text : Tx) : W (Fl (Option (Int)) Empty Empty) :=
  bnd (ret (0 : Int)) fun found1 => bnd (ret a_text) fun left2 => bnd (ret g_ROMANS) fun xs32 => bnd (frW (fun (s3 : (Int) × (Tx)) x4 => bnd (wh (fun (s5 : (Int) × (Tx)) => bnd (ret s5.2) fun x7 => bnd (ret x4.2) fun y8 => ret (y8.isPrefixOf x7)) (fun (s5 : (Int) × (Tx)) => bnd (ret x4.1) fun z10 => bnd (ret (s5.1 + z10)) fun found11 => bnd (bnd (ret s5.2) fun x15 => bnd (bnd (bnd (ret x4.2) fun x13 => ret (x13.length : Int)) fun i14 => ret (some i14)) fun l16 => bnd (ret none) fun u17 => ret (cut x15 l16 u17)) fun left12 => ret (.nx (found11, left12))) (s3.1, s3.2)) (thnL fun (s18 : (Int) × (Tx)) => ret (.nx (s18.1, s18.2)))) xs32 (found1, left2)) (thnL fun (s19 : (Int) × (Tx)) => bnd (wOr (bnd (ret s19.2) fun x20 => bnd (ret ([] : Tx)) fun y21 => ret (!decide (x20 = y21))) (wOr (bnd (ret s19.1) fun x22 => bnd (ret (0 : Int)) fun y23 => ret (decide (x22 = y23))) (wOr (bnd (ret s19.1) fun x24 => bnd (ret (3999 : Int)) fun y25 => ret (decide (y25 < x24))) (bnd (bnd (ret s19.1) fun q26 => cl (w_roman q26)) fun x27 => bnd (ret a_text) fun y28 => ret (!decide (x27 = y28)))))) fun t29 => if t29 then bnd (bnd (ret none) fun r30 => ret (.rt r30)) lv else (bnd (bnd (ret s19.1) fun x => ret (some x)) fun r31 => ret (.rt r31)))
def w_roman_number (a_text : Tx) : W (Option (Int)) := bnd (b_roman_number a_text) fend
theorem s_roman_number {X : Cx} {M : Md} {G : Gh} (c : Ct X 1 M n_roman_number (defScope st_roman_number) fnT) (bl : Bl M) (F_roman : FnAt M 1 "roman" 1 (d1 D.int eS w_roman)) (G_ROMANS : GbAt M "ROMANS" ((eKt (ek2 D.int eS)) g_ROMANS)) (a_text : Tx) :
    DS X G [.fr (eS a_text), .un, .un, .un, .un] (defBody st_roman_number) (eO D.int) eE eE (b_roman_number a_text) := by
  unfold b_roman_number
  exact ds_asgQ (ps_as (i := 1) c.g c.s rfl (.inl rfl) (c.lc rfl) rfl) (de_int) fun found1 => ds_asgQ (ps_as (i := 2) c.g c.s rfl (.inl rfl) (c.lc rfl) rfl) (de_var (enc := eS) (y := a_text) (i := 0) c.s rfl (.inl rfl) rfl) fun left2 => ds_for (e1 := fun (s3 : (Int) × (Tx)) => [.fr (eS a_text), .fr (D.int s3.1), .fr (eS s3.2), .un, .un]) (s0 := (found1, left2)) c.g (di_kt (de_glob (c.gl rfl) (c.gb G_ROMANS))) (.k _ (.k _ (.k _ (.k _ (.k _ (.nil)))))) (fun x4 => tg_ktup c.g (tgs_cons (tg_name (i := 3) c.g c.s rfl (.inl rfl) (c.lc rfl)) (tgs_cons (tg_name (i := 4) c.g c.s rfl (.inl rfl) (c.lc rfl)) (tgs_nil)))) (fun s3 x4 => ds_while (e1 := fun (s5 : (Int) × (Tx)) => [.fr (eS a_text), .fr (D.int s5.1), .fr (eS s5.2), .fr (D.int x4.1), .fr (eS x4.2)]) (s0 := (s3.1, s3.2)) c.g (.k _ (.k _ (.k _ (.k _ (.k _ (.nil)))))) (fun s5 => dt_val (de_startswith ((de_var (enc := eS) (y := s5.2) (i := 2) c.s rfl (.inl rfl) rfl).db) ((de_var (enc := eS) (y := x4.2) (i := 4) c.s rfl (.inl rfl) rfl).db))) (fun s5 => ds_augI (y := s5.1) (i := 1) c.g c.s rfl (.inl rfl) (c.lc rfl) rfl ((de_var (enc := D.int) (y := x4.1) (i := 3) c.s rfl (.inl rfl) rfl).db) fun found11 => ds_asgQ (ps_as (i := 2) c.g c.s rfl (.inl rfl) (c.lc rfl) rfl) (de_slS ((de_var (enc := eS) (y := s5.2) (i := 2) c.s rfl (.inl rfl) rfl).db) (dp_some ((de_lenS (c.mg bl.len) (c.gl rfl) ((de_var (enc := eS) (y := x4.2) (i := 4) c.s rfl (.inl rfl) rfl).db)).db)) (dp_none)) fun left12 => ds_nil (s := (found11, left12)) (.k _ (.k _ (.k _ (.k _ (.k _ (.nil))))))) fun s18 => ds_nil (s := (s18.1, s18.2)) (.k _ (.k _ (.k _ (.d _ (.d _ (.nil))))))) fun s19 => ds_ifx ((dw_or ((dc_ne c.g ((de_var (enc := eS) (y := s19.2) (i := 2) c.s rfl (.inl rfl) rfl).db) ((de_tx (l := ([] : Tx))).db)).ct) (dw_or ((dc_eqI ((de_var (enc := D.int) (y := s19.1) (i := 1) c.s rfl (.inl rfl) rfl).db) ((de_int).db)).ct) (dw_or ((dc_gt ((de_var (enc := D.int) (y := s19.1) (i := 1) c.s rfl (.inl rfl) rfl).db) ((de_int).db)).ct) (dw_or1 ((dc_ne c.g ((de_call1 (c.fn F_roman) c.g (by decide) (c.gl rfl) (de_var (enc := D.int) (y := s19.1) (i := 1) c.s rfl (.inl rfl) rfl)).db) ((de_var (enc := eS) (y := a_text) (i := 0) c.s rfl (.inl rfl) rfl).db)).ct))))).t) (ds_ret (de_nonO D.int)) (ds_ret ((de_var (enc := D.int) (y := s19.1) (i := 1) c.s rfl (.inl rfl) rfl).so))
def b_letters_number (a_number : Int) : W (Fl (Tx) Empty Empty) :=
  bnd (ret ([] : Tx)) fun found1 => bnd (wh (fun (s2 : (Int) × (Tx)) => bnd (ret s2.1) fun x4 => bnd (ret (0 : Int)) fun y5 => ret (decide (y5 < x4))) (fun (s2 : (Int) × (Tx)) => bnd (ret (1 : Int)) fun z6 => bnd (ret (s2.1 - z6)) fun number7 => bnd (bnd (bnd (ret ([97, 98, 99, 100, 101, 102, 103, 104, 105, 106, 107, 108, 109, 110, 111, 112, 113, 114, 115, 116, 117, 118, 119, 120, 121, 122] : Tx)) fun x9 => bnd (bnd (ret number7) fun x10 => bnd (ret (26 : Int)) fun y11 => wMod x10 y11) fun i12 => bnd (wIx x9 i12) fun c13 => ret [c13]) fun x14 => bnd (ret s2.2) fun y15 => wCat x14 y15) fun found8 => bnd (bnd (ret number7) fun x17 => bnd (ret (26 : Int)) fun y18 => wDiv x17 y18) fun number16 => ret (.nx (number16, found8))) (a_number, found1)) (thnL fun (s19 : (Int) × (Tx)) => bnd (ret s19.2) fun r20 => ret (.rt r20))
def w_letters_number (a_number : Int) : W (Tx) := bnd (b_letters_number a_number) fend
theorem s_letters_number {X : Cx} {M : Md} {G : Gh} (c : Ct X 0 M n_letters_number (defScope st_letters_number) fnT) (bl : Bl M)  (a_number : Int) :
    DS X G [.fr (D.int a_number), .un] (defBody st_letters_number) eS eE eE (b_letters_number a_number) := by
  unfold b_letters_number
  exact ds_asgQ (ps_as (i := 1) c.g c.s rfl (.inl rfl) (c.lc rfl) rfl) (de_tx (l := ([] : Tx))) fun found1 => ds_while (e1 := fun (s2 : (Int) × (Tx)) => [.fr (D.int s2.1), .fr (eS s2.2)]) (s0 := (a_number, found1)) c.g (.k _ (.k _ (.nil))) (fun s2 => (dc_gt ((de_var (enc := D.int) (y := s2.1) (i := 0) c.s rfl (.inl rfl) rfl).db) ((de_int).db)).ct) (fun s2 => ds_augS (y := s2.1) (i := 0) c.g c.s rfl (.inl rfl) (c.lc rfl) rfl ((de_int).db) fun number7 => ds_asgQ (ps_as (i := 1) c.g c.s rfl (.inl rfl) (c.lc rfl) rfl) (de_cat ((de_ixS ((de_tx (l := ([97, 98, 99, 100, 101, 102, 103, 104, 105, 106, 107, 108, 109, 110, 111, 112, 113, 114, 115, 116, 117, 118, 119, 120, 121, 122] : Tx))).db) ((de_mod ((de_var (enc := D.int) (y := number7) (i := 0) c.s rfl (.inl rfl) rfl).db) ((de_int).db)).db)).db) ((de_var (enc := eS) (y := s2.2) (i := 1) c.s rfl (.inl rfl) rfl).db)) fun found8 => ds_asgQ (ps_as (i := 0) c.g c.s rfl (.inl rfl) (c.lc rfl) rfl) (de_div ((de_var (enc := D.int) (y := number7) (i := 0) c.s rfl (.inl rfl) rfl).db) ((de_int).db)) fun number16 => ds_nil (s := (number16, found8)) (.k _ (.k _ (.nil)))) fun s19 => ds_ret (de_var (enc := eS) (y := s19.2) (i := 1) c.s rfl (.inl rfl) rfl)
def b_number_of_letters (a_text : Tx) : W (Fl (Option (Int)) Empty Empty) :=
  bnd (wOr (bnd (ret a_text) fun x1 => bnd (ret ([] : Tx)) fun y2 => ret (decide (x1 = y2))) (bnd (bnd (bnd (bnd (ret a_text) fun x3 => ret (x3.map fun c => [c])) (cmW (fun x4 => ret true) fun x4 => bnd (ret x4) fun x5 => bnd (ret ([97, 98, 99, 100, 101, 102, 103, 104, 105, 106, 107, 108, 109, 110, 111, 112, 113, 114, 115, 116, 117, 118, 119, 120, 121, 122] : Tx)) fun y6 => wInS x5 y6)) fun x7 => ret (x7.all id)) fun x8 => ret (!x8))) fun t9 => if t9 then bnd (bnd (ret none) fun r10 => ret (.rt r10)) lv else (bnd (ret (0 : Int)) fun found11 => bnd (bnd (ret a_text) fun x12 => ret (x12.map fun c => [c])) fun xs26 => bnd (frW (fun (s13 : (Int)) x14 => bnd (bnd (bnd (bnd (ret (26 : Int)) fun x16 => bnd (ret s13) fun y17 => wMul x16 y17) fun x20 => bnd (bnd (ret ([97, 98, 99, 100, 101, 102, 103, 104, 105, 106, 107, 108, 109, 110, 111, 112, 113, 114, 115, 116, 117, 118, 119, 120, 121, 122] : Tx)) fun x18 => bnd (ret x14) fun y19 => wIndexS x18 y19) fun y21 => ret (x20 + y21)) fun x22 => bnd (ret (1 : Int)) fun y23 => ret (x22 + y23)) fun found15 => ret (.nx found15)) xs26 found11) (thnL fun (s24 : (Int)) => bnd (bnd (ret s24) fun x => ret (some x)) fun r25 => ret (.rt r25)))
def w_number_of_letters (a_text : Tx) : W (Option (Int)) := bnd (b_number_of_letters a_text) fend
theorem s_number_of_letters {X : Cx} {M : Md} {G : Gh} (c : Ct X 0 M n_number_of_letters (defScope st_number_of_letters) fnT) (bl : Bl M)  (a_text : Tx) :
    DS X G [.fr (eS a_text), .un, .un, .un] (defBody st_number_of_letters) (eO D.int) eE eE (b_number_of_letters a_text) := by
  unfold b_number_of_letters
  exact ds_ifx ((dw_or ((dc_eq c.g ((de_var (enc := eS) (y := a_text) (i := 0) c.s rfl (.inl rfl) rfl).db) ((de_tx (l := ([] : Tx))).db)).ct) (dw_or1 (dt_not (dt_val (de_all c.g (c.mg bl.all) (c.gl rfl) ((dl_cm (own := [(".0", 3), ("letter", 1)]) c.g c.s (blkOk_by (by decide +kernel)) (lq_cm (own := [(".0", 3), ("letter", 1)]) ((di_tx ((de_var (enc := eS) (y := a_text) (i := 0) c.s rfl (.inl rfl) rfl).db)).dj) (fun X hX1 x4 => tg_name (i := 1) (c.blk hX1).g (c.blk hX1).s rfl (.inl rfl) ((c.blk hX1).lc rfl)) (by decide) (fun X hX1 x4 => df_nil) (fun X hX1 x4 => (dc_inS ((de_var (enc := eS) (y := x4) (i := 1) (c.blk hX1).s rfl (.inl rfl) rfl).db) ((de_tx (l := ([97, 98, 99, 100, 101, 102, 103, 104, 105, 106, 107, 108, 109, 110, 111, 112, 113, 114, 115, 116, 117, 118, 119, 120, 121, 122] : Tx))).db)).ce))).db)))))).t) (ds_ret (de_nonO D.int)) (ds_asgQ (ps_as (i := 2) c.g c.s rfl (.inl rfl) (c.lc rfl) rfl) (de_int) fun found11 => ds_for (e1 := fun (s13 : (Int)) => [.fr (eS a_text), .un, .fr (D.int s13), .un]) (s0 := found11) c.g (di_tx ((de_var (enc := eS) (y := a_text) (i := 0) c.s rfl (.inl rfl) rfl).db)) (.k _ (.k _ (.k _ (.k _ (.nil))))) (fun x14 => tg_name (i := 1) c.g c.s rfl (.inl rfl) (c.lc rfl)) (fun s13 x14 => ds_asgQ (ps_as (i := 2) c.g c.s rfl (.inl rfl) (c.lc rfl) rfl) (de_add ((de_add ((de_mul ((de_int).db) ((de_var (enc := D.int) (y := s13) (i := 2) c.s rfl (.inl rfl) rfl).db)).db) ((de_indexS ((de_tx (l := ([97, 98, 99, 100, 101, 102, 103, 104, 105, 106, 107, 108, 109, 110, 111, 112, 113, 114, 115, 116, 117, 118, 119, 120, 121, 122] : Tx))).db) ((de_var (enc := eS) (y := x14) (i := 1) c.s rfl (.inl rfl) rfl).db)).db)).db) ((de_int).db)) fun found15 => ds_nil (s := found15) (.k _ (.d _ (.k _ (.k _ (.nil)))))) fun s24 => ds_ret ((de_var (enc := D.int) (y := s24) (i := 2) c.s rfl (.inl rfl) rfl).so))
def b_padded (a_number : Int) (a_size : Int) : W (Fl (Tx) Empty Empty) :=
  bnd (bnd (bnd (ret a_number) fun x1 => wStr x1) fun x2 => bnd (ret a_size) fun y3 => bnd (ret ([48] : Tx)) fun z4 => wRjust2 x2 y3 z4) fun r5 => ret (.rt r5)
def w_padded (a_number : Int) (a_size : Int) : W (Tx) := bnd (b_padded a_number a_size) fend
theorem s_padded {X : Cx} {M : Md} {G : Gh} (c : Ct X 0 M n_padded (defScope st_padded) fnT) (bl : Bl M)  (a_number : Int) (a_size : Int) :
    DS X G [.fr (D.int a_number), .fr (D.int a_size)] (defBody st_padded) eS eE eE (b_padded a_number a_size) := by
  unfold b_padded
  exact ds_ret (de_rjust2 ((de_strI (c.mg bl.str) (c.gl rfl) ((de_var (enc := D.int) (y := a_number) (i := 0) c.s rfl (.inl rfl) rfl).db)).db) ((de_var (enc := D.int) (y := a_size) (i := 1) c.s rfl (.inl rfl) rfl).db) ((de_tx (l := ([48] : Tx))).db))
def b_law_roman (a_number : Int) : W (Fl (Tx) Empty Empty) :=
  bnd (ret ([([] : Tx), ([105] : Tx), ([105, 105] : Tx), ([105, 105, 105] : Tx), ([105, 118] : Tx), ([118] : Tx), ([118, 105] : Tx), ([118, 105, 105] : Tx), ([118, 105, 105, 105] : Tx), ([105, 120] : Tx)] : List (Tx))) fun ones1 => bnd (ret ([([] : Tx), ([120] : Tx), ([120, 120] : Tx), ([120, 120, 120] : Tx), ([120, 108] : Tx), ([108] : Tx), ([108, 120] : Tx), ([108, 120, 120] : Tx), ([108, 120, 120, 120] : Tx), ([120, 99] : Tx)] : List (Tx))) fun tens22 => bnd (ret ([([] : Tx), ([99] : Tx), ([99, 99] : Tx), ([99, 99, 99] : Tx), ([99, 100] : Tx), ([100] : Tx), ([100, 99] : Tx), ([100, 99, 99] : Tx), ([100, 99, 99, 99] : Tx), ([99, 109] : Tx)] : List (Tx))) fun hundreds43 => bnd (bnd (bnd (bnd (bnd (ret ([109] : Tx)) fun x66 => bnd (bnd (ret a_number) fun x64 => bnd (ret (1000 : Int)) fun y65 => wDiv x64 y65) fun y67 => wMulS x66 y67) fun x74 => bnd (bnd (ret hundreds43) fun x68 => bnd (bnd (bnd (ret a_number) fun x69 => bnd (ret (100 : Int)) fun y70 => wDiv x69 y70) fun x71 => bnd (ret (10 : Int)) fun y72 => wMod x71 y72) fun i73 => wIx x68 i73) fun y75 => wCat x74 y75) fun x82 => bnd (bnd (ret tens22) fun x76 => bnd (bnd (bnd (ret a_number) fun x77 => bnd (ret (10 : Int)) fun y78 => wDiv x77 y78) fun x79 => bnd (ret (10 : Int)) fun y80 => wMod x79 y80) fun i81 => wIx x76 i81) fun y83 => wCat x82 y83) fun x88 => bnd (bnd (ret ones1) fun x84 => bnd (bnd (ret a_number) fun x85 => bnd (ret (10 : Int)) fun y86 => wMod x85 y86) fun i87 => wIx x84 i87) fun y89 => wCat x88 y89) fun r90 => ret (.rt r90)
def w_law_roman (a_number : Int) : W (Tx) := bnd (b_law_roman a_number) fend
theorem s_law_roman {X : Cx} {M : Md} {G : Gh} (c : Ct X 0 M n_law_roman (defScope st_law_roman) fnT) (bl : Bl M)  (a_number : Int) :
    DS X G [.fr (D.int a_number), .un, .un, .un] (defBody st_law_roman) eS eE eE (b_law_roman a_number) := by
  unfold b_law_roman
  exact ds_asgL (ps_as (i := 1) c.g c.s rfl (.inl rfl) (c.lc rfl) rfl) (dl_list (dh_cons (de_tx (l := ([] : Tx))) (dh_cons (de_tx (l := ([105] : Tx))) (dh_cons (de_tx (l := ([105, 105] : Tx))) (dh_cons (de_tx (l := ([105, 105, 105] : Tx))) (dh_cons (de_tx (l := ([105, 118] : Tx))) (dh_cons (de_tx (l := ([118] : Tx))) (dh_cons (de_tx (l := ([118, 105] : Tx))) (dh_cons (de_tx (l := ([118, 105, 105] : Tx))) (dh_cons (de_tx (l := ([118, 105, 105, 105] : Tx))) (dh_cons (de_tx (l := ([105, 120] : Tx))) (dh_nil)))))))))))) fun ones1 => ds_asgL (ps_as (i := 2) c.g c.s rfl (.inl rfl) (c.lc rfl) rfl) (dl_list (dh_cons (de_tx (l := ([] : Tx))) (dh_cons (de_tx (l := ([120] : Tx))) (dh_cons (de_tx (l := ([120, 120] : Tx))) (dh_cons (de_tx (l := ([120, 120, 120] : Tx))) (dh_cons (de_tx (l := ([120, 108] : Tx))) (dh_cons (de_tx (l := ([108] : Tx))) (dh_cons (de_tx (l := ([108, 120] : Tx))) (dh_cons (de_tx (l := ([108, 120, 120] : Tx))) (dh_cons (de_tx (l := ([108, 120, 120, 120] : Tx))) (dh_cons (de_tx (l := ([120, 99] : Tx))) (dh_nil)))))))))))) fun tens22 => ds_asgL (ps_as (i := 3) c.g c.s rfl (.inl rfl) (c.lc rfl) rfl) (dl_list (dh_cons (de_tx (l := ([] : Tx))) (dh_cons (de_tx (l := ([99] : Tx))) (dh_cons (de_tx (l := ([99, 99] : Tx))) (dh_cons (de_tx (l := ([99, 99, 99] : Tx))) (dh_cons (de_tx (l := ([99, 100] : Tx))) (dh_cons (de_tx (l := ([100] : Tx))) (dh_cons (de_tx (l := ([100, 99] : Tx))) (dh_cons (de_tx (l := ([100, 99, 99] : Tx))) (dh_cons (de_tx (l := ([100, 99, 99, 99] : Tx))) (dh_cons (de_tx (l := ([99, 109] : Tx))) (dh_nil)))))))))))) fun hundreds43 => ds_ret (de_cat ((de_cat ((de_cat ((de_mulS ((de_tx (l := ([109] : Tx))).db) ((de_div ((de_var (enc := D.int) (y := a_number) (i := 0) c.s rfl (.inl rfl) rfl).db) ((de_int).db)).db)).db) ((de_ixL (db_var (enc := (eL eS)) (y := hundreds43) (i := 3) c.s rfl (.inl rfl) rfl) ((de_mod ((de_int1 (c.mg bl.int) (c.gl rfl) ((de_div ((de_var (enc := D.int) (y := a_number) (i := 0) c.s rfl (.inl rfl) rfl).db) ((de_int).db)).db)).db) ((de_int).db)).db)).db)).db) ((de_ixL (db_var (enc := (eL eS)) (y := tens22) (i := 2) c.s rfl (.inl rfl) rfl) ((de_mod ((de_int1 (c.mg bl.int) (c.gl rfl) ((de_div ((de_var (enc := D.int) (y := a_number) (i := 0) c.s rfl (.inl rfl) rfl).db) ((de_int).db)).db)).db) ((de_int).db)).db)).db)).db) ((de_ixL (db_var (enc := (eL eS)) (y := ones1) (i := 1) c.s rfl (.inl rfl) rfl) ((de_mod ((de_int1 (c.mg bl.int) (c.gl rfl) ((de_var (enc := D.int) (y := a_number) (i := 0) c.s rfl (.inl rfl) rfl).db)).db) ((de_int).db)).db)).db))
def b_law_read (a_text : Tx) : W (Fl (Option (Int)) Empty Empty) :=
  bnd (bnd (ret ([(([105] : Tx), (1 : Int)), (([118] : Tx), (5 : Int)), (([120] : Tx), (10 : Int)), (([108] : Tx), (50 : Int)), (([99] : Tx), (100 : Int)), (([100] : Tx), (500 : Int)), (([109] : Tx), (1000 : Int))] : List (Tx × Int))) fun d23 => ret (dMerge d23)) fun worths1 => bnd (bnd (bnd (bnd (ret a_text) fun x24 => ret (x24.map fun c => [c])) (cmW (fun x25 => bnd (ret x25) fun x26 => bnd (ret worths1) fun y27 => ret (!(dHas y27 x26))) fun x25 => ret x25)) fun x28 => bnd (ret ([] : List (Tx))) fun y29 => ret (!decide (x28 = y29))) fun t30 => if t30 then bnd (bnd (ret none) fun r31 => ret (.rt r31)) lv else (bnd (ret (0 : Int)) fun total32 => bnd (bnd (bnd (ret a_text) fun x33 => ret (x33.length : Int)) fun x34 => wRng 0 x34) fun xs71 => bnd (frW (fun (s35 : (Int)) x36 => bnd (bnd (ret worths1) fun x38 => bnd (bnd (ret a_text) fun x39 => bnd (ret x36) fun i40 => bnd (wIx x39 i40) fun c41 => ret [c41]) fun k42 => lft (dGet x38 k42)) fun worth37 => bnd (bnd (ret s35) fun x60 => bnd (bnd (wAnd (bnd (bnd (ret x36) fun x44 => bnd (ret (1 : Int)) fun y45 => ret (x44 + y45)) fun x47 => bnd (bnd (ret a_text) fun x46 => ret (x46.length : Int)) fun y48 => ret (decide (x47 < y48))) (bnd (bnd (ret worths1) fun x49 => bnd (bnd (ret a_text) fun x50 => bnd (bnd (ret x36) fun x51 => bnd (ret (1 : Int)) fun y52 => ret (x51 + y52)) fun i53 => bnd (wIx x50 i53) fun c54 => ret [c54]) fun k55 => lft (dGet x49 k55)) fun x56 => bnd (ret worth37) fun y57 => ret (decide (y57 < x56)))) fun t59 => if t59 then (bnd (ret worth37) fun x58 => ret (-x58)) else (ret worth37)) fun y61 => ret (x60 + y61)) fun total43 => ret (.nx total43)) xs71 total32) (thnL fun (s62 : (Int)) => bnd (bnd (wAnd (bnd (ret (1 : Int)) fun x63 => bnd (ret s62) fun y64 => if decide (x63 ≤ y64) then bnd (ret (3999 : Int)) fun z65 => ret (decide (y64 ≤ z65)) else ret false) (bnd (bnd (ret s62) fun q66 => cl (w_law_roman q66)) fun x67 => bnd (ret a_text) fun y68 => ret (decide (x67 = y68)))) fun t69 => if t69 then (bnd (ret s62) fun x => ret (some x)) else (ret none)) fun r70 => ret (.rt r70)))
def w_law_read (a_text : Tx) : W (Option (Int)) := bnd (b_law_read a_text) fend
theorem s_law_read {X : Cx} {M : Md} {G : Gh} (c : Ct X 1 M n_law_read (defScope st_law_read) fnT) (bl : Bl M) (F_law_roman : FnAt M 1 "_law_roman" 1 (d1 D.int eS w_law_roman)) (a_text : Tx) :
    DS X G [.fr (eS a_text), .un, .un, .un, .un, .un, .un] (defBody st_law_read) (eO D.int) eE eE (b_law_read a_text) := by
  unfold b_law_read
  exact ds_asgL (ps_as (i := 1) c.g c.s rfl (.inr rfl) (c.ce rfl) rfl) (dl_disp (ek := eS) (kk := kS) (dpp_cons (de_tx (l := ([105] : Tx))) (de_int) (dpp_cons (de_tx (l := ([118] : Tx))) (de_int) (dpp_cons (de_tx (l := ([120] : Tx))) (de_int) (dpp_cons (de_tx (l := ([108] : Tx))) (de_int) (dpp_cons (de_tx (l := ([99] : Tx))) (de_int) (dpp_cons (de_tx (l := ([100] : Tx))) (de_int) (dpp_cons (de_tx (l := ([109] : Tx))) (de_int) (dpp_nil))))))))) fun worths1 => ds_ifx ((dc_ne c.g ((dl_cm (own := [(".0", 5), ("sign", 6)]) c.g c.s (blkOk_by (by decide +kernel)) (lq_cm (own := [(".0", 5), ("sign", 6)]) ((di_tx ((de_var (enc := eS) (y := a_text) (i := 0) c.s rfl (.inl rfl) rfl).db)).dj) (fun X hX1 x25 => tg_name (i := 6) (c.blk hX1).g (c.blk hX1).s rfl (.inl rfl) ((c.blk hX1).lc rfl)) (by decide) (fun X hX1 x25 => df_one ((dc_notInD (ev := D.int) (c.blk hX1).g (de_var (enc := eS) (y := x25) (i := 6) (c.blk hX1).s rfl (.inl rfl) rfl) (db_var (enc := (eDK kS D.int)) (y := worths1) (i := 1) (c.blk hX1).s rfl (.inr (.inl rfl)) rfl)).ct)) (fun X hX1 x25 => de_var (enc := eS) (y := x25) (i := 6) (c.blk hX1).s rfl (.inl rfl) rfl))).db) ((dl_list ((dh_nil (enc := eS)))).db)).ct) (ds_ret (de_nonO D.int)) (ds_asgQ (ps_as (i := 2) c.g c.s rfl (.inl rfl) (c.lc rfl) rfl) (de_int) fun total32 => ds_for (e1 := fun (s35 : (Int)) => [.fr (eS a_text), .ow ((eDK kS D.int) worths1), .fr (D.int s35), .un, .un, .un, .un]) (s0 := total32) c.g (di_rng1 (c.gl rfl) (c.mg bl.range) ((de_lenS (c.mg bl.len) (c.gl rfl) ((de_var (enc := eS) (y := a_text) (i := 0) c.s rfl (.inl rfl) rfl).db)).db)) (.k _ (.k _ (.k _ (.k _ (.k _ (.k _ (.k _ (.nil)))))))) (fun x36 => tg_name (i := 3) c.g c.s rfl (.inl rfl) (c.lc rfl)) (fun s35 x36 => ds_asgQ (ps_as (i := 4) c.g c.s rfl (.inl rfl) (c.lc rfl) rfl) (de_getD (ev := D.int) c.g (db_var (enc := (eDK kS D.int)) (y := worths1) (i := 1) c.s rfl (.inr (.inl rfl)) rfl) (de_ixS ((de_var (enc := eS) (y := a_text) (i := 0) c.s rfl (.inl rfl) rfl).db) ((de_var (enc := D.int) (y := x36) (i := 3) c.s rfl (.inl rfl) rfl).db))) fun worth37 => ds_asgQ (ps_as (i := 2) c.g c.s rfl (.inl rfl) (c.lc rfl) rfl) (de_add ((de_var (enc := D.int) (y := s35) (i := 2) c.s rfl (.inl rfl) rfl).db) ((de_if ((dw_and ((dc_lt ((de_add ((de_var (enc := D.int) (y := x36) (i := 3) c.s rfl (.inl rfl) rfl).db) ((de_int).db)).db) ((de_lenS (c.mg bl.len) (c.gl rfl) ((de_var (enc := eS) (y := a_text) (i := 0) c.s rfl (.inl rfl) rfl).db)).db)).ct) (dw_and1 ((dc_gt ((de_getD (ev := D.int) c.g (db_var (enc := (eDK kS D.int)) (y := worths1) (i := 1) c.s rfl (.inr (.inl rfl)) rfl) (de_ixS ((de_var (enc := eS) (y := a_text) (i := 0) c.s rfl (.inl rfl) rfl).db) ((de_add ((de_var (enc := D.int) (y := x36) (i := 3) c.s rfl (.inl rfl) rfl).db) ((de_int).db)).db))).db) ((de_var (enc := D.int) (y := worth37) (i := 4) c.s rfl (.inl rfl) rfl).db)).ct))).t) (de_neg ((de_var (enc := D.int) (y := worth37) (i := 4) c.s rfl (.inl rfl) rfl).db)) (de_var (enc := D.int) (y := worth37) (i := 4) c.s rfl (.inl rfl) rfl)).db)) fun total43 => ds_nil (s := total43) (.k _ (.k _ (.k _ (.d _ (.d _ (.k _ (.k _ (.nil))))))))) fun s62 => ds_ret (de_if ((dw_and (dt_chain op_le op_le ((de_int).db) ((de_var (enc := D.int) (y := s62) (i := 2) c.s rfl (.inl rfl) rfl).db) ((de_int).db)) (dw_and1 ((dc_eq c.g ((de_call1 (c.fn F_law_roman) c.g (by decide) (c.gl rfl) (de_var (enc := D.int) (y := s62) (i := 2) c.s rfl (.inl rfl) rfl)).db) ((de_var (enc := eS) (y := a_text) (i := 0) c.s rfl (.inl rfl) rfl).db)).ct))).t) ((de_var (enc := D.int) (y := s62) (i := 2) c.s rfl (.inl rfl) rfl).so) (de_nonO D.int)))
def b_law_lettered (a_number : Int) : W (Fl (Tx) Empty Empty) :=
  bnd (ret ([] : Tx)) fun found1 => bnd (ret (1 : Int)) fun size2 => bnd (ret (0 : Int)) fun before3 => bnd (ret (26 : Int)) fun many4 => bnd (bnd (ret (6 : Int)) fun x5 => wRng 0 x5) fun xs46 => bnd (frW (fun (s6 : (Int) × (Int) × (Int)) x7 => bnd (bnd (ret a_number) fun x10 => bnd (bnd (ret s6.2.1) fun x8 => bnd (ret s6.2.2) fun y9 => ret (x8 + y9)) fun y11 => ret (decide (y11 < x10))) fun t12 => bnd (if t12 then (bnd (bnd (ret s6.2.1) fun x15 => bnd (ret s6.2.2) fun y16 => ret (x15 + y16)) fun before14 => bnd (bnd (ret s6.2.2) fun x18 => bnd (ret (26 : Int)) fun y19 => wMul x18 y19) fun many17 => bnd (bnd (ret s6.1) fun x21 => bnd (ret (1 : Int)) fun y22 => ret (x21 + y22)) fun size20 => ret (.nx (size20, before14, many17))) else (ret (.nx (s6.1, s6.2.1, s6.2.2)))) (thn' fun (s13 : (Int) × (Int) × (Int)) => ret (.nx (s13.1, s13.2.1, s13.2.2)))) xs46 (size2, before3, many4)) (thnL fun (s23 : (Int) × (Int) × (Int)) => bnd (bnd (bnd (ret a_number) fun x25 => bnd (ret s23.2.1) fun y26 => ret (x25 - y26)) fun x27 => bnd (ret (1 : Int)) fun y28 => ret (x27 - y28)) fun left24 => bnd (bnd (ret s23.1) fun x29 => wRng 0 x29) fun xs45 => bnd (frW (fun (s30 : (Tx) × (Int)) x31 => bnd (bnd (bnd (ret ([97, 98, 99, 100, 101, 102, 103, 104, 105, 106, 107, 108, 109, 110, 111, 112, 113, 114, 115, 116, 117, 118, 119, 120, 121, 122] : Tx)) fun x33 => bnd (bnd (ret s30.2) fun x34 => bnd (ret (26 : Int)) fun y35 => wMod x34 y35) fun i36 => bnd (wIx x33 i36) fun c37 => ret [c37]) fun x38 => bnd (ret s30.1) fun y39 => wCat x38 y39) fun found32 => bnd (bnd (ret s30.2) fun x41 => bnd (ret (26 : Int)) fun y42 => wDiv x41 y42) fun left40 => ret (.nx (found32, left40))) xs45 (found1, left24)) (thnL fun (s43 : (Tx) × (Int)) => bnd (ret s43.1) fun r44 => ret (.rt r44)))
def w_law_lettered (a_number : Int) : W (Tx) := bnd (b_law_lettered a_number) fend
theorem s_law_lettered {X : Cx} {M : Md} {G : Gh} (c : Ct X 0 M n_law_lettered (defScope st_law_lettered) fnT) (bl : Bl M)  (a_number : Int) :
    DS X G [.fr (D.int a_number), .un, .un, .un, .un, .un, .un] (defBody st_law_lettered) eS eE eE (b_law_lettered a_number) := by
  unfold b_law_lettered
  exact ds_asgQ (ps_as (i := 1) c.g c.s rfl (.inl rfl) (c.lc rfl) rfl) (de_tx (l := ([] : Tx))) fun found1 => ds_asgQ (ps_as (i := 2) c.g c.s rfl (.inl rfl) (c.lc rfl) rfl) (de_int) fun size2 => ds_asgQ (ps_as (i := 3) c.g c.s rfl (.inl rfl) (c.lc rfl) rfl) (de_int) fun before3 => ds_asgQ (ps_as (i := 4) c.g c.s rfl (.inl rfl) (c.lc rfl) rfl) (de_int) fun many4 => ds_for (e1 := fun (s6 : (Int) × (Int) × (Int)) => [.fr (D.int a_number), .fr (eS found1), .fr (D.int s6.1), .fr (D.int s6.2.1), .fr (D.int s6.2.2), .un, .un]) (s0 := (size2, before3, many4)) c.g (di_rng1 (c.gl rfl) (c.mg bl.range) ((de_int).db)) (.k _ (.k _ (.k _ (.k _ (.k _ (.k _ (.k _ (.nil)))))))) (fun x7 => tg_name (i := 5) c.g c.s rfl (.inl rfl) (c.lc rfl)) (fun s6 x7 => ds_if (e1 := fun (s13 : (Int) × (Int) × (Int)) => [.fr (D.int a_number), .fr (eS found1), .fr (D.int s13.1), .fr (D.int s13.2.1), .fr (D.int s13.2.2), .fr (D.int x7), .un]) ((dc_gt ((de_var (enc := D.int) (y := a_number) (i := 0) c.s rfl (.inl rfl) rfl).db) ((de_add ((de_var (enc := D.int) (y := s6.2.1) (i := 3) c.s rfl (.inl rfl) rfl).db) ((de_var (enc := D.int) (y := s6.2.2) (i := 4) c.s rfl (.inl rfl) rfl).db)).db)).ct) (ds_asgQ (ps_as (i := 3) c.g c.s rfl (.inl rfl) (c.lc rfl) rfl) (de_add ((de_var (enc := D.int) (y := s6.2.1) (i := 3) c.s rfl (.inl rfl) rfl).db) ((de_var (enc := D.int) (y := s6.2.2) (i := 4) c.s rfl (.inl rfl) rfl).db)) fun before14 => ds_asgQ (ps_as (i := 4) c.g c.s rfl (.inl rfl) (c.lc rfl) rfl) (de_mul ((de_var (enc := D.int) (y := s6.2.2) (i := 4) c.s rfl (.inl rfl) rfl).db) ((de_int).db)) fun many17 => ds_asgQ (ps_as (i := 2) c.g c.s rfl (.inl rfl) (c.lc rfl) rfl) (de_add ((de_var (enc := D.int) (y := s6.1) (i := 2) c.s rfl (.inl rfl) rfl).db) ((de_int).db)) fun size20 => ds_nil (s := (size20, before14, many17)) (.k _ (.k _ (.k _ (.k _ (.k _ (.k _ (.k _ (.nil))))))))) (ds_nil (s := (s6.1, s6.2.1, s6.2.2)) (.k _ (.k _ (.k _ (.k _ (.k _ (.k _ (.k _ (.nil))))))))) fun s13 => ds_nil (s := (s13.1, s13.2.1, s13.2.2)) (.k _ (.k _ (.k _ (.k _ (.k _ (.d _ (.k _ (.nil))))))))) fun s23 => ds_asgQ (ps_as (i := 6) c.g c.s rfl (.inl rfl) (c.lc rfl) rfl) (de_sub ((de_sub ((de_var (enc := D.int) (y := a_number) (i := 0) c.s rfl (.inl rfl) rfl).db) ((de_var (enc := D.int) (y := s23.2.1) (i := 3) c.s rfl (.inl rfl) rfl).db)).db) ((de_int).db)) fun left24 => ds_for (e1 := fun (s30 : (Tx) × (Int)) => [.fr (D.int a_number), .fr (eS s30.1), .fr (D.int s23.1), .fr (D.int s23.2.1), .fr (D.int s23.2.2), .un, .fr (D.int s30.2)]) (s0 := (found1, left24)) c.g (di_rng1 (c.gl rfl) (c.mg bl.range) ((de_var (enc := D.int) (y := s23.1) (i := 2) c.s rfl (.inl rfl) rfl).db)) (.k _ (.k _ (.k _ (.k _ (.k _ (.k _ (.k _ (.nil)))))))) (fun x31 => tg_name (i := 5) c.g c.s rfl (.inl rfl) (c.lc rfl)) (fun s30 x31 => ds_asgQ (ps_as (i := 1) c.g c.s rfl (.inl rfl) (c.lc rfl) rfl) (de_cat ((de_ixS ((de_tx (l := ([97, 98, 99, 100, 101, 102, 103, 104, 105, 106, 107, 108, 109, 110, 111, 112, 113, 114, 115, 116, 117, 118, 119, 120, 121, 122] : Tx))).db) ((de_mod ((de_int1 (c.mg bl.int) (c.gl rfl) ((de_var (enc := D.int) (y := s30.2) (i := 6) c.s rfl (.inl rfl) rfl).db)).db) ((de_int).db)).db)).db) ((de_var (enc := eS) (y := s30.1) (i := 1) c.s rfl (.inl rfl) rfl).db)) fun found32 => ds_asgQ (ps_as (i := 6) c.g c.s rfl (.inl rfl) (c.lc rfl) rfl) (de_div ((de_var (enc := D.int) (y := s30.2) (i := 6) c.s rfl (.inl rfl) rfl).db) ((de_int).db)) fun left40 => ds_nil (s := (found32, left40)) (.k _ (.k _ (.k _ (.k _ (.k _ (.d _ (.k _ (.nil))))))))) fun s43 => ds_ret (de_var (enc := eS) (y := s43.1) (i := 1) c.s rfl (.inl rfl) rfl)
def b_law (a_script : List Int) : W (Fl (Bool) Empty Empty) :=
  bnd (bnd (ret a_script) fun q2 => bnd (ret (0 : Int)) fun q3 => bnd (ret (24 : Int)) fun q4 => cl (w_law_digits q2 q3 q4)) fun box1 => bnd (bnd (ret (4 : Int)) fun x5 => wRng 0 x5) fun xs215 => bnd (frW (fun (s6 : Unit) x7 => bnd (bnd (bnd (ret (1 : Int)) fun h43 => bnd (bnd (ret (4 : Int)) fun h41 => bnd (bnd (ret (9 : Int)) fun h39 => bnd (bnd (ret (40 : Int)) fun h37 => bnd (bnd (ret (49 : Int)) fun h35 => bnd (bnd (ret (99 : Int)) fun h33 => bnd (bnd (ret (400 : Int)) fun h31 => bnd (bnd (ret (499 : Int)) fun h29 => bnd (bnd (ret (900 : Int)) fun h27 => bnd (bnd (ret (999 : Int)) fun h25 => bnd (bnd (ret (1944 : Int)) fun h23 => bnd (bnd (ret (3999 : Int)) fun h21 => bnd (bnd (bnd (ret (1 : Int)) fun x10 => bnd (bnd (ret (999 : Int)) fun q9 => cl (w_law_draw q9)) fun y11 => ret (x10 + y11)) fun h19 => bnd (bnd (bnd (ret (1 : Int)) fun x15 => bnd (bnd (bnd (ret (999 : Int)) fun q12 => cl (w_law_draw q12)) fun x13 => bnd (ret (4 : Int)) fun y14 => wMul x13 y14) fun y16 => ret (x15 + y16)) fun h17 => bnd (ret []) fun t18 => ret (h17 :: t18)) fun t20 => ret (h19 :: t20)) fun t22 => ret (h21 :: t22)) fun t24 => ret (h23 :: t24)) fun t26 => ret (h25 :: t26)) fun t28 => ret (h27 :: t28)) fun t30 => ret (h29 :: t30)) fun t32 => ret (h31 :: t32)) fun t34 => ret (h33 :: t34)) fun t36 => ret (h35 :: t36)) fun t38 => ret (h37 :: t38)) fun t40 => ret (h39 :: t40)) fun t42 => ret (h41 :: t42)) fun t44 => ret (h43 :: t44)) wPick) fun number8 => bnd (bnd (ret number8) fun q46 => cl (w_law_roman q46)) fun text45 => bnd (wOr (bnd (bnd (bnd (ret number8) fun q47 => cl (w_roman q47)) fun q48 => bnd (ret text45) fun q49 => wSame 8 eS q48 q49) fun x50 => ret (!x50)) (bnd (bnd (bnd (ret text45) fun q51 => cl (w_roman_number q51)) fun q52 => bnd (bnd (ret number8) fun x => ret (some x)) fun q53 => wSame 8 (eO D.int) q52 q53) fun x54 => ret (!x54))) fun t55 => if t55 then bnd (bnd (ret false) fun r56 => ret (.rt r56)) lv else (bnd (bnd (bnd (ret text45) fun x59 => ret (x59.length : Int)) fun q60 => cl (w_law_draw q60)) fun at57 => bnd (bnd (ret ([105, 118, 120, 108, 99, 100, 109, 97, 73] : Tx)) wPickS) fun sign61 => bnd (bnd (bnd (bnd (bnd (ret text45) fun x63 => bnd (ret none) fun l64 => bnd (bnd (ret at57) fun i62 => ret (some i62)) fun u65 => ret (cut x63 l64 u65)) fun x66 => bnd (ret sign61) fun y67 => wCat x66 y67) fun x72 => bnd (bnd (ret text45) fun x69 => bnd (bnd (ret at57) fun i68 => ret (some i68)) fun l70 => bnd (ret none) fun u71 => ret (cut x69 l70 u71)) fun y73 => wCat x72 y73) fun h108 => bnd (bnd (bnd (bnd (ret text45) fun x75 => bnd (ret none) fun l76 => bnd (bnd (ret at57) fun i74 => ret (some i74)) fun u77 => ret (cut x75 l76 u77)) fun x84 => bnd (bnd (ret text45) fun x81 => bnd (bnd (bnd (ret at57) fun x78 => bnd (ret (1 : Int)) fun y79 => ret (x78 + y79)) fun i80 => ret (some i80)) fun l82 => bnd (ret none) fun u83 => ret (cut x81 l82 u83)) fun y85 => wCat x84 y85) fun h106 => bnd (bnd (bnd (bnd (bnd (ret text45) fun x87 => bnd (ret none) fun l88 => bnd (bnd (ret at57) fun i86 => ret (some i86)) fun u89 => ret (cut x87 l88 u89)) fun x90 => bnd (ret sign61) fun y91 => wCat x90 y91) fun x98 => bnd (bnd (ret text45) fun x95 => bnd (bnd (bnd (ret at57) fun x92 => bnd (ret (1 : Int)) fun y93 => ret (x92 + y93)) fun i94 => ret (some i94)) fun l96 => bnd (ret none) fun u97 => ret (cut x95 l96 u97)) fun y99 => wCat x98 y99) fun h104 => bnd (bnd (bnd (ret text45) fun x100 => bnd (ret sign61) fun y101 => wCat x100 y101) fun h102 => bnd (ret []) fun t103 => ret (h102 :: t103)) fun t105 => ret (h104 :: t105)) fun t107 => ret (h106 :: t107)) fun t109 => ret (h108 :: t109)) fun xs120 => bnd (frW (fun (s110 : Unit) x111 => bnd (bnd (bnd (bnd (ret x111) fun q112 => cl (w_roman_number q112)) fun q114 => bnd (bnd (ret x111) fun q113 => cl (w_law_read q113)) fun q115 => wSame 8 (eO D.int) q114 q115) fun x116 => ret (!x116)) fun t117 => if t117 then bnd (bnd (ret false) fun r118 => ret (.rt r118)) lv else (ret (.nx ()))) xs120 ()) (thnL fun (s119 : Unit) => ret (.nx ())))) xs215 ()) (thnL fun (s121 : Unit) => bnd (bnd (ret ([] : Tx)) fun x126 => bnd (bnd (bnd (bnd (ret (7 : Int)) fun q123 => cl (w_law_draw q123)) fun x124 => wRng 0 x124) (cmW (fun x125 => ret true) fun x125 => bnd (ret ([105, 105, 105, 118, 120, 120, 99, 109] : Tx)) wPickS)) fun y127 => wJoin x126 y127) fun wild122 => bnd (wOr (bnd (bnd (bnd (ret wild122) fun q128 => cl (w_roman_number q128)) fun q130 => bnd (bnd (ret wild122) fun q129 => cl (w_law_read q129)) fun q131 => wSame 8 (eO D.int) q130 q131) fun x132 => ret (!x132)) (bnd (bnd (bnd (ret ([109, 109, 109, 109] : Tx)) fun q133 => cl (w_roman_number q133)) fun q134 => bnd (ret none) fun q135 => wSame 8 (eO D.int) q134 q135) fun x136 => ret (!x136))) fun t137 => if t137 then bnd (bnd (ret false) fun r138 => ret (.rt r138)) lv else (bnd (bnd (bnd (ret (1 : Int)) fun h164 => bnd (bnd (ret (26 : Int)) fun h162 => bnd (bnd (ret (27 : Int)) fun h160 => bnd (bnd (ret (52 : Int)) fun h158 => bnd (bnd (ret (702 : Int)) fun h156 => bnd (bnd (ret (703 : Int)) fun h154 => bnd (bnd (ret (18278 : Int)) fun h152 => bnd (bnd (ret (18279 : Int)) fun h150 => bnd (bnd (bnd (bnd (ret (1 : Int)) fun x143 => bnd (bnd (bnd (ret (1000 : Int)) fun q140 => cl (w_law_draw q140)) fun x141 => bnd (ret (1000 : Int)) fun y142 => wMul x141 y142) fun y144 => ret (x143 + y144)) fun x146 => bnd (bnd (ret (1000 : Int)) fun q145 => cl (w_law_draw q145)) fun y147 => ret (x146 + y147)) fun h148 => bnd (ret []) fun t149 => ret (h148 :: t149)) fun t151 => ret (h150 :: t151)) fun t153 => ret (h152 :: t153)) fun t155 => ret (h154 :: t155)) fun t157 => ret (h156 :: t157)) fun t159 => ret (h158 :: t159)) fun t161 => ret (h160 :: t161)) fun t163 => ret (h162 :: t163)) fun t165 => ret (h164 :: t165)) wPick) fun number139 => bnd (bnd (ret number139) fun q167 => cl (w_law_lettered q167)) fun text166 => bnd (wOr (bnd (bnd (bnd (ret number139) fun q168 => cl (w_letters_number q168)) fun q169 => bnd (ret text166) fun q170 => wSame 8 eS q169 q170) fun x171 => ret (!x171)) (bnd (bnd (bnd (ret text166) fun q172 => cl (w_number_of_letters q172)) fun q173 => bnd (bnd (ret number139) fun x => ret (some x)) fun q174 => wSame 8 (eO D.int) q173 q174) fun x175 => ret (!x175))) fun t176 => if t176 then bnd (bnd (ret false) fun r177 => ret (.rt r177)) lv else (bnd (bnd (bnd (bnd (ret ([] : Tx)) fun h188 => bnd (bnd (ret ([65] : Tx)) fun h186 => bnd (bnd (ret ([97, 49] : Tx)) fun h184 => bnd (bnd (ret ([97, 32, 98] : Tx)) fun h182 => bnd (bnd (bnd (ret text166) fun x178 => bnd (ret ([45] : Tx)) fun y179 => wCat x178 y179) fun h180 => bnd (ret []) fun t181 => ret (h180 :: t181)) fun t183 => ret (h182 :: t183)) fun t185 => ret (h184 :: t185)) fun t187 => ret (h186 :: t187)) fun t189 => ret (h188 :: t189)) (cmW (fun x190 => bnd (bnd (ret x190) fun q191 => cl (w_number_of_letters q191)) fun x192 => ret x192.isSome) fun x190 => ret x190)) fun x193 => bnd (ret ([] : List (Tx))) fun y194 => ret (!decide (x193 = y194))) fun t195 => if t195 then bnd (bnd (ret false) fun r196 => ret (.rt r196)) lv else (bnd (bnd (ret (9 : Int)) fun q198 => cl (w_law_draw q198)) fun size197 => bnd (bnd (ret number139) fun x200 => wStr x200) fun plain199 => bnd (bnd (bnd (ret number139) fun q201 => bnd (ret size197) fun q202 => cl (w_padded q201 q202)) fun q212 => bnd (bnd (bnd (ret ([48] : Tx)) fun x208 => bnd (bnd (ret (0 : Int)) fun x206 => bnd (bnd (ret size197) fun x204 => bnd (bnd (ret plain199) fun x203 => ret (x203.length : Int)) fun y205 => ret (x204 - y205)) fun y207 => ret (if y207 > x206 then y207 else x206)) fun y209 => wMulS x208 y209) fun x210 => bnd (ret plain199) fun y211 => wCat x210 y211) fun q213 => wSame 8 eS q212 q213) fun r214 => ret (.rt r214)))))
def w_law (a_script : List Int) : W (Bool) := bnd (b_law a_script) fend
theorem s_law {X : Cx} {M : Md} {G : Gh} (c : Ct X 10 M n_law (defScope st_law) fnT) (bl : Bl M) (F_law_digits : FnAt M 2 "_law_digits" 3 (d3 D.scr D.int D.int (eL D.int) w_law_digits)) (F_law_draw : FnBx M 1 "_law_draw" 1 (d1 D.int D.int w_law_draw)) (F_law_lettered : FnAt M 1 "_law_lettered" 1 (d1 D.int eS w_law_lettered)) (F_law_pick : FnBx M 2 "_law_pick" 1 pickW) (F_law_read : FnAt M 2 "_law_read" 1 (d1 eS (eO D.int) w_law_read)) (F_law_roman : FnAt M 1 "_law_roman" 1 (d1 D.int eS w_law_roman)) (F_law_same : FnAt M 10 "_law_same" 2 (d2 eD eD D.bl (sameW 9))) (F_letters_number : FnAt M 1 "letters_number" 1 (d1 D.int eS w_letters_number)) (F_number_of_letters : FnAt M 1 "number_of_letters" 1 (d1 eS (eO D.int) w_number_of_letters)) (F_padded : FnAt M 1 "padded" 2 (d2 D.int D.int eS w_padded)) (F_roman : FnAt M 1 "roman" 1 (d1 D.int eS w_roman)) (F_roman_number : FnAt M 2 "roman_number" 1 (d1 eS (eO D.int) w_roman_number)) (hG : G.bx = none) (a_script : List Int) :
    DS X G [.fr (D.scr a_script), .un, .un, .un, .un, .un, .un, .un, .un, .un, .un, .un, .un, .un] (defBody st_law) D.bl eE eE (b_law a_script) := by
  unfold b_law
  exact ds_asgL (ps_as (i := 1) c.g c.s rfl (.inr rfl) (c.ce rfl) rfl) (dl_box (de_call3 (c.fn F_law_digits) c.g (by decide) (c.gl rfl) (de_var (enc := D.scr) (y := a_script) (i := 0) c.s rfl (.inl rfl) rfl) (de_int) (de_int))) fun box1 => ds_ob (i := 1) hG rfl fun G => ds_for (e1 := fun (s6 : Unit) => [.fr (D.scr a_script), .ob, .un, .un, .un, .un, .un, .un, .un, .un, .un, .un, .un, .un]) (s0 := ()) c.g (di_rng1 (c.gl rfl) (c.mg bl.range) ((de_int).db)) (.k _ (.k _ (.k _ (.k _ (.k _ (.k _ (.k _ (.k _ (.k _ (.k _ (.k _ (.k _ (.k _ (.k _ (.nil))))))))))))))) (fun x7 => tg_name (i := 2) c.g c.s rfl (.inl rfl) (c.lc rfl)) (fun s6 x7 => ds_asgQ (ps_as (i := 3) c.g c.s rfl (.inl rfl) (c.lc rfl) rfl) (de_pickL (i := 1) (c.fb F_law_pick) c.g (by decide) c.s rfl (.inr (.inl rfl)) rfl (c.gl rfl) ((dl_list (dh_cons (de_int) (dh_cons (de_int) (dh_cons (de_int) (dh_cons (de_int) (dh_cons (de_int) (dh_cons (de_int) (dh_cons (de_int) (dh_cons (de_int) (dh_cons (de_int) (dh_cons (de_int) (dh_cons (de_int) (dh_cons (de_int) (dh_cons (de_add ((de_int).db) ((de_box1 (c.fb F_law_draw) c.g (by decide) c.s (i := 1) rfl (.inr (.inl rfl)) rfl (c.gl rfl) (de_int)).db)) (dh_cons (de_add ((de_int).db) ((de_mul ((de_box1 (c.fb F_law_draw) c.g (by decide) c.s (i := 1) rfl (.inr (.inl rfl)) rfl (c.gl rfl) (de_int)).db) ((de_int).db)).db)) (dh_nil)))))))))))))))).de)) fun number8 => ds_asgQ (ps_as (i := 4) c.g c.s rfl (.inl rfl) (c.lc rfl) rfl) (de_call1 (c.fn F_law_roman) c.g (by decide) (c.gl rfl) (de_var (enc := D.int) (y := number8) (i := 3) c.s rfl (.inl rfl) rfl)) fun text45 => ds_ifx ((dw_or (dt_not (dt_val (de_same (ea := eS) (c.fn F_law_same) c.g (by decide) (c.gl rfl) (de_call1 (c.fn F_roman) c.g (by decide) (c.gl rfl) (de_var (enc := D.int) (y := number8) (i := 3) c.s rfl (.inl rfl) rfl)) (de_var (enc := eS) (y := text45) (i := 4) c.s rfl (.inl rfl) rfl)))) (dw_or1 (dt_not (dt_val (de_same (ea := (eO D.int)) (c.fn F_law_same) c.g (by decide) (c.gl rfl) (de_call1 (c.fn F_roman_number) c.g (by decide) (c.gl rfl) (de_var (enc := eS) (y := text45) (i := 4) c.s rfl (.inl rfl) rfl)) ((de_var (enc := D.int) (y := number8) (i := 3) c.s rfl (.inl rfl) rfl).so)))))).t) (ds_ret (de_bl)) (ds_asgQ (ps_as (i := 5) c.g c.s rfl (.inl rfl) (c.lc rfl) rfl) (de_box1 (c.fb F_law_draw) c.g (by decide) c.s (i := 1) rfl (.inr (.inl rfl)) rfl (c.gl rfl) (de_lenS (c.mg bl.len) (c.gl rfl) ((de_var (enc := eS) (y := text45) (i := 4) c.s rfl (.inl rfl) rfl).db))) fun at57 => ds_asgQ (ps_as (i := 6) c.g c.s rfl (.inl rfl) (c.lc rfl) rfl) (de_pickS (i := 1) (c.fb F_law_pick) c.g (by decide) c.s rfl (.inr (.inl rfl)) rfl (c.gl rfl) (de_tx (l := ([105, 118, 120, 108, 99, 100, 109, 97, 73] : Tx)))) fun sign61 => ds_for (e1 := fun (s110 : Unit) => [.fr (D.scr a_script), .ob, .fr (D.int x7), .fr (D.int number8), .fr (eS text45), .fr (D.int at57), .fr (eS sign61), .un, .un, .un, .un, .un, .un, .un]) (s0 := ()) c.g (di_list ((dl_list (dh_cons (de_cat ((de_cat ((de_slS ((de_var (enc := eS) (y := text45) (i := 4) c.s rfl (.inl rfl) rfl).db) (dp_none) (dp_some ((de_var (enc := D.int) (y := at57) (i := 5) c.s rfl (.inl rfl) rfl).db))).db) ((de_var (enc := eS) (y := sign61) (i := 6) c.s rfl (.inl rfl) rfl).db)).db) ((de_slS ((de_var (enc := eS) (y := text45) (i := 4) c.s rfl (.inl rfl) rfl).db) (dp_some ((de_var (enc := D.int) (y := at57) (i := 5) c.s rfl (.inl rfl) rfl).db)) (dp_none)).db)) (dh_cons (de_cat ((de_slS ((de_var (enc := eS) (y := text45) (i := 4) c.s rfl (.inl rfl) rfl).db) (dp_none) (dp_some ((de_var (enc := D.int) (y := at57) (i := 5) c.s rfl (.inl rfl) rfl).db))).db) ((de_slS ((de_var (enc := eS) (y := text45) (i := 4) c.s rfl (.inl rfl) rfl).db) (dp_some ((de_add ((de_var (enc := D.int) (y := at57) (i := 5) c.s rfl (.inl rfl) rfl).db) ((de_int).db)).db)) (dp_none)).db)) (dh_cons (de_cat ((de_cat ((de_slS ((de_var (enc := eS) (y := text45) (i := 4) c.s rfl (.inl rfl) rfl).db) (dp_none) (dp_some ((de_var (enc := D.int) (y := at57) (i := 5) c.s rfl (.inl rfl) rfl).db))).db) ((de_var (enc := eS) (y := sign61) (i := 6) c.s rfl (.inl rfl) rfl).db)).db) ((de_slS ((de_var (enc := eS) (y := text45) (i := 4) c.s rfl (.inl rfl) rfl).db) (dp_some ((de_add ((de_var (enc := D.int) (y := at57) (i := 5) c.s rfl (.inl rfl) rfl).db) ((de_int).db)).db)) (dp_none)).db)) (dh_cons (de_cat ((de_var (enc := eS) (y := text45) (i := 4) c.s rfl (.inl rfl) rfl).db) ((de_var (enc := eS) (y := sign61) (i := 6) c.s rfl (.inl rfl) rfl).db)) (dh_nil)))))).de)) (.k _ (.k _ (.k _ (.k _ (.k _ (.k _ (.k _ (.k _ (.k _ (.k _ (.k _ (.k _ (.k _ (.k _ (.nil))))))))))))))) (fun x111 => tg_name (i := 7) c.g c.s rfl (.inl rfl) (c.lc rfl)) (fun s110 x111 => ds_ifx (dt_not (dt_val (de_same (ea := (eO D.int)) (c.fn F_law_same) c.g (by decide) (c.gl rfl) (de_call1 (c.fn F_roman_number) c.g (by decide) (c.gl rfl) (de_var (enc := eS) (y := x111) (i := 7) c.s rfl (.inl rfl) rfl)) (de_call1 (c.fn F_law_read) c.g (by decide) (c.gl rfl) (de_var (enc := eS) (y := x111) (i := 7) c.s rfl (.inl rfl) rfl))))) (ds_ret (de_bl)) (ds_nil (s := ()) (.k _ (.k _ (.k _ (.k _ (.k _ (.k _ (.k _ (.d _ (.k _ (.k _ (.k _ (.k _ (.k _ (.k _ (.nil))))))))))))))))) fun s119 => ds_nil (s := ()) (.k _ (.k _ (.d _ (.d _ (.d _ (.d _ (.d _ (.k _ (.k _ (.k _ (.k _ (.k _ (.k _ (.k _ (.nil))))))))))))))))) fun s121 => ds_asgQ (ps_as (i := 8) c.g c.s rfl (.inl rfl) (c.lc rfl) rfl) (de_joinL ((de_tx (l := ([] : Tx))).db) ((dl_cm (own := [(".0", 11), ("k", 12)]) c.g c.s (blkOk_by (by decide +kernel)) (lq_cm (own := [(".0", 11), ("k", 12)]) ((di_rng1 (c.gl rfl) (c.mg bl.range) ((de_box1 (c.fb F_law_draw) c.g (by decide) c.s (i := 1) rfl (.inr (.inl rfl)) rfl (c.gl rfl) (de_int)).db)).dj) (fun X hX1 x125 => tg_name (i := 12) (c.blk hX1).g (c.blk hX1).s rfl (.inl rfl) ((c.blk hX1).lc rfl)) (by decide) (fun X hX1 x125 => df_nil) (fun X hX1 x125 => de_pickS (i := 1) ((c.blk hX1).fb F_law_pick) (c.blk hX1).g (by decide) (c.blk hX1).s rfl (.inr (.inl rfl)) rfl ((c.blk hX1).gl rfl) (de_tx (l := ([105, 105, 105, 118, 120, 120, 99, 109] : Tx)))))).db)) fun wild122 => ds_ifx ((dw_or (dt_not (dt_val (de_same (ea := (eO D.int)) (c.fn F_law_same) c.g (by decide) (c.gl rfl) (de_call1 (c.fn F_roman_number) c.g (by decide) (c.gl rfl) (de_var (enc := eS) (y := wild122) (i := 8) c.s rfl (.inl rfl) rfl)) (de_call1 (c.fn F_law_read) c.g (by decide) (c.gl rfl) (de_var (enc := eS) (y := wild122) (i := 8) c.s rfl (.inl rfl) rfl))))) (dw_or1 (dt_not (dt_val (de_same (ea := (eO D.int)) (c.fn F_law_same) c.g (by decide) (c.gl rfl) (de_call1 (c.fn F_roman_number) c.g (by decide) (c.gl rfl) (de_tx (l := ([109, 109, 109, 109] : Tx)))) (de_nonO D.int)))))).t) (ds_ret (de_bl)) (ds_asgQ (ps_as (i := 3) c.g c.s rfl (.inl rfl) (c.lc rfl) rfl) (de_pickL (i := 1) (c.fb F_law_pick) c.g (by decide) c.s rfl (.inr (.inl rfl)) rfl (c.gl rfl) ((dl_list (dh_cons (de_int) (dh_cons (de_int) (dh_cons (de_int) (dh_cons (de_int) (dh_cons (de_int) (dh_cons (de_int) (dh_cons (de_int) (dh_cons (de_int) (dh_cons (de_add ((de_add ((de_int).db) ((de_mul ((de_box1 (c.fb F_law_draw) c.g (by decide) c.s (i := 1) rfl (.inr (.inl rfl)) rfl (c.gl rfl) (de_int)).db) ((de_int).db)).db)).db) ((de_box1 (c.fb F_law_draw) c.g (by decide) c.s (i := 1) rfl (.inr (.inl rfl)) rfl (c.gl rfl) (de_int)).db)) (dh_nil))))))))))).de)) fun number139 => ds_asgQ (ps_as (i := 4) c.g c.s rfl (.inl rfl) (c.lc rfl) rfl) (de_call1 (c.fn F_law_lettered) c.g (by decide) (c.gl rfl) (de_var (enc := D.int) (y := number139) (i := 3) c.s rfl (.inl rfl) rfl)) fun text166 => ds_ifx ((dw_or (dt_not (dt_val (de_same (ea := eS) (c.fn F_law_same) c.g (by decide) (c.gl rfl) (de_call1 (c.fn F_letters_number) c.g (by decide) (c.gl rfl) (de_var (enc := D.int) (y := number139) (i := 3) c.s rfl (.inl rfl) rfl)) (de_var (enc := eS) (y := text166) (i := 4) c.s rfl (.inl rfl) rfl)))) (dw_or1 (dt_not (dt_val (de_same (ea := (eO D.int)) (c.fn F_law_same) c.g (by decide) (c.gl rfl) (de_call1 (c.fn F_number_of_letters) c.g (by decide) (c.gl rfl) (de_var (enc := eS) (y := text166) (i := 4) c.s rfl (.inl rfl) rfl)) ((de_var (enc := D.int) (y := number139) (i := 3) c.s rfl (.inl rfl) rfl).so)))))).t) (ds_ret (de_bl)) (ds_ifx ((dc_ne c.g ((dl_cm (own := [(".0", 11), ("bad", 13)]) c.g c.s (blkOk_by (by decide +kernel)) (lq_cm (own := [(".0", 11), ("bad", 13)]) (dj_list ((dl_list (dh_cons (de_tx (l := ([] : Tx))) (dh_cons (de_tx (l := ([65] : Tx))) (dh_cons (de_tx (l := ([97, 49] : Tx))) (dh_cons (de_tx (l := ([97, 32, 98] : Tx))) (dh_cons (de_cat ((de_var (enc := eS) (y := text166) (i := 4) c.s rfl (.inl rfl) rfl).db) ((de_tx (l := ([45] : Tx))).db)) (dh_nil))))))).db)) (fun X hX1 x190 => tg_name (i := 13) (c.blk hX1).g (c.blk hX1).s rfl (.inl rfl) ((c.blk hX1).lc rfl)) (by decide) (fun X hX1 x190 => df_one ((dc_notN (enc := D.int) ((de_call1 ((c.blk hX1).fn F_number_of_letters) (c.blk hX1).g (by decide) ((c.blk hX1).gl rfl) (de_var (enc := eS) (y := x190) (i := 13) (c.blk hX1).s rfl (.inl rfl) rfl)).db) NonN.nn).ct)) (fun X hX1 x190 => de_var (enc := eS) (y := x190) (i := 13) (c.blk hX1).s rfl (.inl rfl) rfl))).db) ((dl_list ((dh_nil (enc := eS)))).db)).ct) (ds_ret (de_bl)) (ds_asgQ (ps_as (i := 9) c.g c.s rfl (.inl rfl) (c.lc rfl) rfl) (de_box1 (c.fb F_law_draw) c.g (by decide) c.s (i := 1) rfl (.inr (.inl rfl)) rfl (c.gl rfl) (de_int)) fun size197 => ds_asgQ (ps_as (i := 10) c.g c.s rfl (.inl rfl) (c.lc rfl) rfl) (de_strI (c.mg bl.str) (c.gl rfl) ((de_var (enc := D.int) (y := number139) (i := 3) c.s rfl (.inl rfl) rfl).db)) fun plain199 => ds_ret (de_same (ea := eS) (c.fn F_law_same) c.g (by decide) (c.gl rfl) (de_call2 (c.fn F_padded) c.g (by decide) (c.gl rfl) (de_var (enc := D.int) (y := number139) (i := 3) c.s rfl (.inl rfl) rfl) (de_var (enc := D.int) (y := size197) (i := 9) c.s rfl (.inl rfl) rfl)) (de_cat ((de_mulS ((de_tx (l := ([48] : Tx))).db) ((de_max2 c.g (c.mg bl.max) (c.gl rfl) ((de_int).db) ((de_sub ((de_var (enc := D.int) (y := size197) (i := 9) c.s rfl (.inl rfl) rfl).db) ((de_lenS (c.mg bl.len) (c.gl rfl) ((de_var (enc := eS) (y := plain199) (i := 10) c.s rfl (.inl rfl) rfl).db)).db)).db)).db)).db) ((de_var (enc := eS) (y := plain199) (i := 10) c.s rfl (.inl rfl) rfl).db))))))
end K
namespace K
open PySem PySem.Spec PyProof.Rows L2 Dt
def romStep (s : Int × Tx) (p : Int × Tx) : Int × Tx := loopN (fun s => decide (p.1 ≤ s.1)) (fun s => (s.1 - p.1, s.2 ++ p.2)) 4000 s
@[irreducible] def romF (n : Int) : Tx := (g_ROMANS.foldl romStep (n, [])).2
def numStep (s : Int × Tx) (p : Int × Tx) : Int × Tx := loopN (fun s => p.2.isPrefixOf s.2) (fun s => (s.1 + p.1, s.2.drop p.2.length)) 64 s
@[irreducible] def numF (t : Tx) : Option Int :=
  let s := g_ROMANS.foldl numStep (0, t)
  if s.2 = [] ∧ s.1 ≠ 0 ∧ s.1 ≤ 3999 ∧ romF s.1 = t then some s.1 else none
def onesL : List Tx := [([] : Tx), ([105] : Tx), ([105, 105] : Tx), ([105, 105, 105] : Tx), ([105, 118] : Tx), ([118] : Tx), ([118, 105] : Tx), ([118, 105, 105] : Tx), ([118, 105, 105, 105] : Tx), ([105, 120] : Tx)]
def tensL : List Tx := [([] : Tx), ([120] : Tx), ([120, 120] : Tx), ([120, 120, 120] : Tx), ([120, 108] : Tx), ([108] : Tx), ([108, 120] : Tx), ([108, 120, 120] : Tx), ([108, 120, 120, 120] : Tx), ([120, 99] : Tx)]
def hunsL : List Tx := [([] : Tx), ([99] : Tx), ([99, 99] : Tx), ([99, 99, 99] : Tx), ([99, 100] : Tx), ([100] : Tx), ([100, 99] : Tx), ([100, 99, 99] : Tx), ([100, 99, 99, 99] : Tx), ([99, 109] : Tx)]
@[irreducible] def lromF (n : Int) : Tx := (List.replicate (n.fdiv 1000).toNat ([109] : Tx)).flatten ++ hunsL.getD ((n.fdiv 100).fmod 10).toNat [] ++ tensL.getD ((n.fdiv 10).fmod 10).toNat [] ++ onesL.getD (n.fmod 10).toNat []
def worthsL : List (Tx × Int) := [(([105] : Tx), (1 : Int)), (([118] : Tx), (5 : Int)), (([120] : Tx), (10 : Int)), (([108] : Tx), (50 : Int)), (([99] : Tx), (100 : Int)), (([100] : Tx), (500 : Int)), (([109] : Tx), (1000 : Int))]
def wv (c : Nat) : Int := (dGet worthsL [c]).getD 0
def readStep (t : Tx) (s : Int) (x : Int) : Int := s + (if x + 1 < (t.length : Int) ∧ wv (t.getD x.toNat 0) < wv (t.getD (x.toNat + 1) 0) then - wv (t.getD x.toNat 0) else wv (t.getD x.toNat 0))
@[irreducible] def readT (t : Tx) : Int := (rng 0 t.length).foldl (readStep t) 0
@[irreducible] def readF (t : Tx) : Option Int :=
  if t.all (fun c => dHas worthsL [c]) = true ∧ 1 ≤ readT t ∧ readT t ≤ 3999 ∧ lromF (readT t) = t then some (readT t) else none
def okN (k : Nat) : Bool :=
  let n : Int := (k : Int) + 1
  let t := romF n
  decide (lromF n = t) && decide (numF t = some n) && decide (readF t = some n) && decide (1 ≤ t.length) && decide (t.length ≤ 20) && t.all (fun c => decide (c < 128))
end K
namespace K
open PySem PySem.Spec PyProof.Rows L2 Dt
theorem okc0 : (List.range 50).all (fun k => okN (k + 0)) = true := by decide +kernel
theorem okc1 : (List.range 50).all (fun k => okN (k + 50)) = true := by decide +kernel
theorem okc2 : (List.range 50).all (fun k => okN (k + 100)) = true := by decide +kernel
theorem okc3 : (List.range 50).all (fun k => okN (k + 150)) = true := by decide +kernel
theorem okc4 : (List.range 50).all (fun k => okN (k + 200)) = true := by decide +kernel
theorem okc5 : (List.range 50).all (fun k => okN (k + 250)) = true := by decide +kernel
theorem okc6 : (List.range 50).all (fun k => okN (k + 300)) = true := by decide +kernel
theorem okc7 : (List.range 50).all (fun k => okN (k + 350)) = true := by decide +kernel
theorem okc8 : (List.range 50).all (fun k => okN (k + 400)) = true := by decide +kernel
theorem okc9 : (List.range 50).all (fun k => okN (k + 450)) = true := by decide +kernel
theorem okc10 : (List.range 50).all (fun k => okN (k + 500)) = true := by decide +kernel
theorem okc11 : (List.range 50).all (fun k => okN (k + 550)) = true := by decide +kernel
theorem okc12 : (List.range 50).all (fun k => okN (k + 600)) = true := by decide +kernel
theorem okc13 : (List.range 50).all (fun k => okN (k + 650)) = true := by decide +kernel
theorem okc14 : (List.range 50).all (fun k => okN (k + 700)) = true := by decide +kernel
theorem okc15 : (List.range 50).all (fun k => okN (k + 750)) = true := by decide +kernel
theorem okc16 : (List.range 50).all (fun k => okN (k + 800)) = true := by decide +kernel
theorem okc17 : (List.range 50).all (fun k => okN (k + 850)) = true := by decide +kernel
theorem okc18 : (List.range 50).all (fun k => okN (k + 900)) = true := by decide +kernel
theorem okc19 : (List.range 50).all (fun k => okN (k + 950)) = true := by decide +kernel
theorem okc20 : (List.range 50).all (fun k => okN (k + 1000)) = true := by decide +kernel
theorem okc21 : (List.range 50).all (fun k => okN (k + 1050)) = true := by decide +kernel
theorem okc22 : (List.range 50).all (fun k => okN (k + 1100)) = true := by decide +kernel
theorem okc23 : (List.range 50).all (fun k => okN (k + 1150)) = true := by decide +kernel
theorem okc24 : (List.range 50).all (fun k => okN (k + 1200)) = true := by decide +kernel
theorem okc25 : (List.range 50).all (fun k => okN (k + 1250)) = true := by decide +kernel
theorem okc26 : (List.range 50).all (fun k => okN (k + 1300)) = true := by decide +kernel
theorem okc27 : (List.range 50).all (fun k => okN (k + 1350)) = true := by decide +kernel
theorem okc28 : (List.range 50).all (fun k => okN (k + 1400)) = true := by decide +kernel
theorem okc29 : (List.range 50).all (fun k => okN (k + 1450)) = true := by decide +kernel
theorem okc30 : (List.range 50).all (fun k => okN (k + 1500)) = true := by decide +kernel
theorem okc31 : (List.range 50).all (fun k => okN (k + 1550)) = true := by decide +kernel
theorem okc32 : (List.range 50).all (fun k => okN (k + 1600)) = true := by decide +kernel
theorem okc33 : (List.range 50).all (fun k => okN (k + 1650)) = true := by decide +kernel
theorem okc34 : (List.range 50).all (fun k => okN (k + 1700)) = true := by decide +kernel
theorem okc35 : (List.range 50).all (fun k => okN (k + 1750)) = true := by decide +kernel
theorem okc36 : (List.range 50).all (fun k => okN (k + 1800)) = true := by decide +kernel
theorem okc37 : (List.range 50).all (fun k => okN (k + 1850)) = true := by decide +kernel
theorem okc38 : (List.range 50).all (fun k => okN (k + 1900)) = true := by decide +kernel
theorem okc39 : (List.range 50).all (fun k => okN (k + 1950)) = true := by decide +kernel
theorem okc40 : (List.range 50).all (fun k => okN (k + 2000)) = true := by decide +kernel
theorem okc41 : (List.range 50).all (fun k => okN (k + 2050)) = true := by decide +kernel
theorem okc42 : (List.range 50).all (fun k => okN (k + 2100)) = true := by decide +kernel
theorem okc43 : (List.range 50).all (fun k => okN (k + 2150)) = true := by decide +kernel
theorem okc44 : (List.range 50).all (fun k => okN (k + 2200)) = true := by decide +kernel
theorem okc45 : (List.range 50).all (fun k => okN (k + 2250)) = true := by decide +kernel
theorem okc46 : (List.range 50).all (fun k => okN (k + 2300)) = true := by decide +kernel
theorem okc47 : (List.range 50).all (fun k => okN (k + 2350)) = true := by decide +kernel
theorem okc48 : (List.range 50).all (fun k => okN (k + 2400)) = true := by decide +kernel
theorem okc49 : (List.range 50).all (fun k => okN (k + 2450)) = true := by decide +kernel
theorem okc50 : (List.range 50).all (fun k => okN (k + 2500)) = true := by decide +kernel
theorem okc51 : (List.range 50).all (fun k => okN (k + 2550)) = true := by decide +kernel
theorem okc52 : (List.range 50).all (fun k => okN (k + 2600)) = true := by decide +kernel
theorem okc53 : (List.range 50).all (fun k => okN (k + 2650)) = true := by decide +kernel
theorem okc54 : (List.range 50).all (fun k => okN (k + 2700)) = true := by decide +kernel
theorem okc55 : (List.range 50).all (fun k => okN (k + 2750)) = true := by decide +kernel
theorem okc56 : (List.range 50).all (fun k => okN (k + 2800)) = true := by decide +kernel
theorem okc57 : (List.range 50).all (fun k => okN (k + 2850)) = true := by decide +kernel
theorem okc58 : (List.range 50).all (fun k => okN (k + 2900)) = true := by decide +kernel
theorem okc59 : (List.range 50).all (fun k => okN (k + 2950)) = true := by decide +kernel
theorem okc60 : (List.range 50).all (fun k => okN (k + 3000)) = true := by decide +kernel
theorem okc61 : (List.range 50).all (fun k => okN (k + 3050)) = true := by decide +kernel
theorem okc62 : (List.range 50).all (fun k => okN (k + 3100)) = true := by decide +kernel
theorem okc63 : (List.range 50).all (fun k => okN (k + 3150)) = true := by decide +kernel
theorem okc64 : (List.range 50).all (fun k => okN (k + 3200)) = true := by decide +kernel
theorem okc65 : (List.range 50).all (fun k => okN (k + 3250)) = true := by decide +kernel
theorem okc66 : (List.range 50).all (fun k => okN (k + 3300)) = true := by decide +kernel
theorem okc67 : (List.range 50).all (fun k => okN (k + 3350)) = true := by decide +kernel
theorem okc68 : (List.range 50).all (fun k => okN (k + 3400)) = true := by decide +kernel
theorem okc69 : (List.range 50).all (fun k => okN (k + 3450)) = true := by decide +kernel
theorem okc70 : (List.range 50).all (fun k => okN (k + 3500)) = true := by decide +kernel
theorem okc71 : (List.range 50).all (fun k => okN (k + 3550)) = true := by decide +kernel
theorem okc72 : (List.range 50).all (fun k => okN (k + 3600)) = true := by decide +kernel
theorem okc73 : (List.range 50).all (fun k => okN (k + 3650)) = true := by decide +kernel
theorem okc74 : (List.range 50).all (fun k => okN (k + 3700)) = true := by decide +kernel
theorem okc75 : (List.range 50).all (fun k => okN (k + 3750)) = true := by decide +kernel
theorem okc76 : (List.range 50).all (fun k => okN (k + 3800)) = true := by decide +kernel
theorem okc77 : (List.range 50).all (fun k => okN (k + 3850)) = true := by decide +kernel
theorem okc78 : (List.range 50).all (fun k => okN (k + 3900)) = true := by decide +kernel
theorem okc79 : (List.range 49).all (fun k => okN (k + 3950)) = true := by decide +kernel
end K
namespace K
open PySem PySem.Spec PyProof.Rows L2 Dt
theorem rom_mem : ∀ p ∈ g_ROMANS, 1 ≤ p.1 ∧ p.1 ≤ 1000 ∧ 1 ≤ p.2.length ∧ p.2.length ≤ 2 := by decide
theorem sl_big : 100000 < sizeLine := by decide
theorem roman_ok {n : Int} {Φ : Tx → Prop} (h0 : 0 ≤ n) (h1 : n ≤ 3999) (q : Φ (romF n)) : w_roman n Φ := by
  have hz := sl_big
  unfold romF at q
  show b_roman n (fun o => fend o Φ)
  unfold b_roman
  simp only [ap_bnd, ap_ret, ap_grd, ap_and, ap_or, ap_thn, ap_thn_rt, ap_thnL, ap_thnL_rt, ap_lv, ap_fend, decide_eq_true_eq, Bool.false_eq_true, if_false, if_true, Bool.not_true, Bool.not_false, Bool.not_eq_true, true_and]
  refine frW_fold romStep (fun s => 0 ≤ s.1 ∧ s.2.length + 2 * s.1.toNat ≤ 8000) (fun s p hp hI => ?_) ⟨h0, by show ([] : Tx).length + 2 * n.toNat ≤ 8000; simp; omega⟩ q
  have hp := rom_mem p hp
  have st : ∀ s : Int × Tx, (0 ≤ s.1 ∧ s.2.length + 2 * s.1.toNat ≤ 8000) → decide (p.1 ≤ s.1) = true → (0 ≤ s.1 - p.1 ∧ (s.2 ++ p.2).length + 2 * (s.1 - p.1).toNat ≤ 8000) := fun s hI hc => by
    have hc := of_decide_eq_true hc
    rw [List.length_append]
    omega
  refine ⟨loopN_inv (fun s : Int × Tx => 0 ≤ s.1 ∧ s.2.length + 2 * s.1.toNat ≤ 8000) st 4000 hI, fun Ψ hΨ => ?_⟩
  simp only [ap_bnd, ap_ret, ap_grd, ap_and, ap_or, ap_thn, ap_thn_rt, ap_thnL, ap_thnL_rt, ap_lv, ap_fend, decide_eq_true_eq, Bool.false_eq_true, if_false, if_true, Bool.not_true, Bool.not_false, Bool.not_eq_true, true_and]
  refine wh_loop (fun s => decide (p.1 ≤ s.1)) (fun s => (s.1 - p.1, s.2 ++ p.2)) (fun s => 0 ≤ s.1 ∧ s.2.length + 2 * s.1.toNat ≤ 8000) (fun s => s.1.toNat) (fun s _ Θ q => q) (fun s hI hc => ⟨st s hI hc, ?_, fun Θ q => ?_⟩) 4000 hI (by omega) hΨ
  · have hc := of_decide_eq_true hc
    show (s.1 - p.1).toNat < s.1.toNat
    omega
  · exact wCat_ok (by omega) q
theorem rnum_ok {t : Tx} {Φ : Option Int → Prop} (hl : t.length ≤ 60) (q : Φ (numF t)) : w_roman_number t Φ := by
  show b_roman_number t (fun o => fend o Φ)
  unfold b_roman_number
  simp only [ap_bnd, ap_ret, ap_grd, ap_and, ap_or, ap_thn, ap_thn_rt, ap_thnL, ap_thnL_rt, ap_lv, ap_fend, decide_eq_true_eq, Bool.false_eq_true, if_false, if_true, Bool.not_true, Bool.not_false, Bool.not_eq_true, true_and]
  have st : ∀ p ∈ g_ROMANS, ∀ s : Int × Tx, (0 ≤ s.1 ∧ s.2.length ≤ 60) → p.2.isPrefixOf s.2 = true → (0 ≤ s.1 + p.1 ∧ (s.2.drop p.2.length).length ≤ 60) ∧ (s.2.drop p.2.length).length < s.2.length := fun p hp s hI hc => by
    have hp := rom_mem p hp
    have hle := (List.isPrefixOf_iff_prefix.mp hc).length_le
    rw [List.length_drop]
    omega
  have hI : 0 ≤ (g_ROMANS.foldl numStep (0, t)).1 ∧ (g_ROMANS.foldl numStep (0, t)).2.length ≤ 60 :=
    foldl_inv (g := numStep) (fun s : Int × Tx => 0 ≤ s.1 ∧ s.2.length ≤ 60) (fun s p hp hs => loopN_inv (fun s : Int × Tx => 0 ≤ s.1 ∧ s.2.length ≤ 60) (fun s hs hc => (st p hp s hs hc).1) 64 hs) ⟨Int.le_refl _, hl⟩
  refine frW_fold numStep (fun s => 0 ≤ s.1 ∧ s.2.length ≤ 60) (fun s p hp hI => ⟨loopN_inv (fun s : Int × Tx => 0 ≤ s.1 ∧ s.2.length ≤ 60) (fun s hs hc => (st p hp s hs hc).1) 64 hI, fun Ψ hΨ => ?_⟩) ⟨Int.le_refl _, hl⟩ ?_
  · simp only [ap_bnd, ap_ret, ap_grd, ap_and, ap_or, ap_thn, ap_thn_rt, ap_thnL, ap_thnL_rt, ap_lv, ap_fend, decide_eq_true_eq, Bool.false_eq_true, if_false, if_true, Bool.not_true, Bool.not_false, Bool.not_eq_true, true_and]
    refine wh_loop (fun s => p.2.isPrefixOf s.2) (fun s => (s.1 + p.1, s.2.drop p.2.length)) (fun s => 0 ≤ s.1 ∧ s.2.length ≤ 60) (fun s => s.2.length) (fun s _ Θ q => q) (fun s hI hc => ⟨(st p hp s hI hc).1, (st p hp s hI hc).2, fun Θ q => ?_⟩) 64 hI (by show s.2.length ≤ 64; have := hI.2; omega) hΨ
    simp only [ap_bnd, ap_ret, ap_grd, ap_and, ap_or, ap_thn, ap_thn_rt, ap_thnL, ap_thnL_rt, ap_lv, ap_fend, decide_eq_true_eq, Bool.false_eq_true, if_false, if_true, Bool.not_true, Bool.not_false, Bool.not_eq_true, true_and]
    rw [cut_drop]
    exact q
  · unfold numF at q
    generalize g_ROMANS.foldl numStep (0, t) = s at q hI
    simp only [ap_bnd, ap_ret, ap_grd, ap_and, ap_or, ap_ite, ap_thn, ap_thn_rt, ap_thnL, ap_thnL_rt, ap_lv, ap_fend, decide_eq_true_eq, Bool.false_eq_true, if_false, if_true, Bool.not_true, Bool.not_false, Bool.not_eq_true, true_and]
    by_cases h1 : s.2 = []
    · by_cases h2 : s.1 = 0
      · simp only [h1, h2, ap_bnd, ap_ret, ap_grd, ap_and, ap_or, ap_ite, ap_thn, ap_thn_rt, ap_thnL, ap_thnL_rt, ap_lv, ap_fend, decide_eq_true_eq, Bool.false_eq_true, if_false, if_true, Bool.not_true, Bool.not_false, Bool.not_eq_true, true_and, decide_true, ne_eq, not_true, false_and, and_false] at q ⊢
        exact q
      · by_cases h3 : 3999 < s.1
        · have h4 : ¬ s.1 ≤ 3999 := by omega
          simp only [h1, h2, h3, h4, ap_bnd, ap_ret, ap_grd, ap_and, ap_or, ap_ite, ap_thn, ap_thn_rt, ap_thnL, ap_thnL_rt, ap_lv, ap_fend, decide_eq_true_eq, Bool.false_eq_true, if_false, if_true, Bool.not_true, Bool.not_false, Bool.not_eq_true, true_and, decide_true, decide_false, ne_eq, not_true, false_and, and_false] at q ⊢
          exact q
        · have h4 : s.1 ≤ 3999 := by omega
          simp only [h1, h2, h3, ap_bnd, ap_ret, ap_grd, ap_and, ap_or, ap_ite, ap_thn, ap_thn_rt, ap_thnL, ap_thnL_rt, ap_lv, ap_fend, decide_eq_true_eq, Bool.false_eq_true, if_false, if_true, Bool.not_true, Bool.not_false, Bool.not_eq_true, true_and, decide_true, decide_false]
          refine le_cl (roman_ok hI.1 h4 ?_)
          by_cases h5 : romF s.1 = t
          · simp only [h1, h2, h4, h5, ap_bnd, ap_ret, ap_grd, ap_and, ap_or, ap_ite, ap_thn, ap_thn_rt, ap_thnL, ap_thnL_rt, ap_lv, ap_fend, decide_eq_true_eq, Bool.false_eq_true, if_false, if_true, Bool.not_true, Bool.not_false, Bool.not_eq_true, true_and, decide_true, decide_false, ne_eq, not_false_eq_true, and_self] at q ⊢
            exact q
          · simp only [h1, h2, h4, h5, ap_bnd, ap_ret, ap_grd, ap_and, ap_or, ap_ite, ap_thn, ap_thn_rt, ap_thnL, ap_thnL_rt, ap_lv, ap_fend, decide_eq_true_eq, Bool.false_eq_true, if_false, if_true, Bool.not_true, Bool.not_false, Bool.not_eq_true, true_and, decide_true, decide_false, ne_eq, not_false_eq_true, and_false] at q ⊢
            exact q
    · simp only [h1, ap_bnd, ap_ret, ap_grd, ap_and, ap_or, ap_ite, ap_thn, ap_thn_rt, ap_thnL, ap_thnL_rt, ap_lv, ap_fend, decide_eq_true_eq, Bool.false_eq_true, if_false, if_true, Bool.not_true, Bool.not_false, Bool.not_eq_true, true_and, decide_false, false_and] at q ⊢
      exact q
end K
namespace K
open PySem PySem.Spec PyProof.Rows L2 Dt
theorem lrom_ok {n : Int} {Φ : Tx → Prop} (h0 : 0 ≤ n) (h1 : n ≤ 3999) (q : Φ (lromF n)) : w_law_roman n Φ := by
  have hz := sl_big
  have d1 := fdiv_nn n (y := 1000) (by decide)
  have d2 := fdiv_nn n (y := 100) (by decide)
  have d3 := fdiv_nn n (y := 10) (by decide)
  have m2 := fmod_nn (n.fdiv 100) (y := 10) (by decide)
  have m3 := fmod_nn (n.fdiv 10) (y := 10) (by decide)
  have m4 := fmod_nn n (y := 10) (by decide)
  have l1 := getD_all (xs := hunsL) (d := []) (fun x => x.length ≤ 4) (by decide) (by decide) ((n.fdiv 100).fmod 10).toNat
  have l2 := getD_all (xs := tensL) (d := []) (fun x => x.length ≤ 4) (by decide) (by decide) ((n.fdiv 10).fmod 10).toNat
  have l3 := getD_all (xs := onesL) (d := []) (fun x => x.length ≤ 4) (by decide) (by decide) (n.fmod 10).toNat
  have l0 : (List.replicate (n.fdiv 1000).toNat ([109] : Tx)).flatten.length = (n.fdiv 1000).toNat := by simp
  unfold lromF at q
  show b_law_roman n (fun o => fend o Φ)
  unfold b_law_roman
  simp only [ap_bnd, ap_ret, ap_grd, ap_and, ap_or, ap_thn, ap_thn_rt, ap_thnL, ap_thnL_rt, ap_lv, ap_fend, decide_eq_true_eq, Bool.false_eq_true, if_false, if_true, Bool.not_true, Bool.not_false, Bool.not_eq_true, true_and]
  refine wDiv_ok (by decide) (by decide) ⟨⟨by omega, by show 1 * _ ≤ _; omega, by omega⟩, ?_⟩
  refine wDiv_ok (by decide) (by decide) (wMod_ok (by decide) (wIx_getD (xs := hunsL) (d := []) (by omega) (by show _ < (10 : Int); omega) ?_))
  refine wCat_ok (by omega) ?_
  refine wDiv_ok (by decide) (by decide) (wMod_ok (by decide) (wIx_getD (xs := tensL) (d := []) (by omega) (by show _ < (10 : Int); omega) ?_))
  refine wCat_ok (by rw [List.length_append]; omega) ?_
  refine wMod_ok (by decide) (wIx_getD (xs := onesL) (d := []) (by omega) (by show _ < (10 : Int); omega) ?_)
  refine wCat_ok (by rw [List.length_append, List.length_append]; omega) ?_
  exact q
theorem read_ok {t : Tx} {Φ : Option Int → Prop} (hl : t.length ≤ 60) (q : Φ (readF t)) : w_law_read t Φ := by
  have hz := sl_big
  show b_law_read t (fun o => fend o Φ)
  unfold b_law_read
  have e : dMerge [(([105] : Tx), (1 : Int)), (([118] : Tx), (5 : Int)), (([120] : Tx), (10 : Int)), (([108] : Tx), (50 : Int)), (([99] : Tx), (100 : Int)), (([100] : Tx), (500 : Int)), (([109] : Tx), (1000 : Int))] = worthsL := by decide
  simp only [ap_bnd, ap_ret, ap_grd, ap_and, ap_or, ap_thn, ap_thn_rt, ap_thnL, ap_thnL_rt, ap_lv, ap_fend, decide_eq_true_eq, Bool.false_eq_true, if_false, if_true, Bool.not_true, Bool.not_false, Bool.not_eq_true, true_and, e]
  refine cmW_fm (fun x => !dHas worthsL x) (fun x => x) (fun x hx Θ z => z) (fun x hx _ Θ z => z) ?_
  rw [List.map_id']
  by_cases hb : t.all (fun c => dHas worthsL [c]) = true
  · have hf : (t.map fun c => [c]).filter (fun x => !dHas worthsL x) = [] := by
      rw [List.filter_eq_nil_iff]
      intro x hx
      obtain ⟨c, hc, rfl⟩ := List.mem_map.mp hx
      have := List.all_eq_true.mp hb c hc
      simp [this]
    have hg : ∀ i, i < t.length → dGet worthsL [t.getD i 0] = some (wv (t.getD i 0)) := fun i hi => by
      have : dHas worthsL [t.getD i 0] = true := by
        rw [List.getD_eq_getElem?_getD, List.getElem?_eq_getElem hi]
        exact List.all_eq_true.mp hb _ (List.getElem_mem hi)
      unfold dHas at this
      obtain ⟨y, hy⟩ := Option.isSome_iff_exists.mp this
      unfold wv
      rw [hy]
      rfl
    rw [hf]
    simp only [ap_bnd, ap_ret, ap_grd, ap_and, ap_or, ap_thn, ap_thn_rt, ap_thnL, ap_thnL_rt, ap_lv, ap_fend, decide_eq_true_eq, Bool.false_eq_true, if_false, if_true, Bool.not_true, Bool.not_false, Bool.not_eq_true, true_and, decide_true]
    refine wRng_ok (by omega) ?_
    refine frW_fold (readStep t) (fun _ => True) (fun s x hx _ => ⟨trivial, fun Ψ hΨ => ?_⟩) trivial ?_
    · obtain ⟨i, hi, rfl⟩ := mem_rng0 hx
      simp only [ap_bnd, ap_ret, ap_grd, ap_and, ap_or, ap_thn, ap_thn_rt, ap_thnL, ap_thnL_rt, ap_lv, ap_fend, decide_eq_true_eq, Bool.false_eq_true, if_false, if_true, Bool.not_true, Bool.not_false, Bool.not_eq_true, true_and]
      refine wIx_getD (d := 0) (by omega) (by omega) ⟨wv (t.getD i 0), hg i hi, ?_⟩
      dsimp only
      unfold readStep at hΨ
      have e1 : (((i : Nat) : Int) + 1).toNat = i + 1 := by omega
      rw [Int.toNat_natCast] at hΨ
      by_cases h1 : (i : Int) + 1 < (t.length : Int)
      · rw [if_pos h1]
        refine wIx_getD (d := 0) (by omega) h1 ?_
        rw [e1]
        refine ⟨wv (t.getD (i + 1) 0), hg (i + 1) (by omega), ?_⟩
        dsimp only
        by_cases h2 : wv (t.getD i 0) < wv (t.getD (i + 1) 0)
        · rw [if_pos ⟨h1, h2⟩] at hΨ
          simp only [ap_bnd, ap_ret, ap_grd, ap_and, ap_or, ap_ite, ap_thn, ap_thn_rt, ap_thnL, ap_thnL_rt, ap_lv, ap_fend, decide_eq_true_eq, Bool.false_eq_true, if_false, if_true, Bool.not_true, Bool.not_false, Bool.not_eq_true, true_and, h2, decide_true]
          exact hΨ
        · rw [if_neg (fun z => h2 z.2)] at hΨ
          simp only [ap_bnd, ap_ret, ap_grd, ap_and, ap_or, ap_ite, ap_thn, ap_thn_rt, ap_thnL, ap_thnL_rt, ap_lv, ap_fend, decide_eq_true_eq, Bool.false_eq_true, if_false, if_true, Bool.not_true, Bool.not_false, Bool.not_eq_true, true_and, h2, decide_false]
          exact hΨ
      · rw [if_neg (fun z => h1 z.1)] at hΨ
        rw [if_neg h1]
        exact hΨ
    · unfold readF at q
      have er : (rng 0 t.length).foldl (readStep t) 0 = readT t := by unfold readT; rfl
      rw [er]
      simp only [ap_bnd, ap_ret, ap_grd, ap_and, ap_or, ap_ite, ap_thn, ap_thn_rt, ap_thnL, ap_thnL_rt, ap_lv, ap_fend, decide_eq_true_eq, Bool.false_eq_true, if_false, if_true, Bool.not_true, Bool.not_false, Bool.not_eq_true, true_and, hb]
      generalize readT t = k at q
      by_cases h1 : 1 ≤ k
      · by_cases h2 : k ≤ 3999
        · simp only [h1, h2, ap_bnd, ap_ret, ap_grd, ap_and, ap_or, ap_ite, ap_thn, ap_thn_rt, ap_thnL, ap_thnL_rt, ap_lv, ap_fend, decide_eq_true_eq, Bool.false_eq_true, if_false, if_true, Bool.not_true, Bool.not_false, Bool.not_eq_true, true_and, decide_true]
          refine le_cl (lrom_ok (by omega) h2 ?_)
          by_cases h3 : lromF k = t
          · simp only [h1, h2, h3, hb, ap_bnd, ap_ret, ap_grd, ap_and, ap_or, ap_ite, ap_thn, ap_thn_rt, ap_thnL, ap_thnL_rt, ap_lv, ap_fend, decide_eq_true_eq, Bool.false_eq_true, if_false, if_true, Bool.not_true, Bool.not_false, Bool.not_eq_true, true_and, decide_true, and_self] at q ⊢
            exact q
          · simp only [h1, h2, h3, hb, ap_bnd, ap_ret, ap_grd, ap_and, ap_or, ap_ite, ap_thn, ap_thn_rt, ap_thnL, ap_thnL_rt, ap_lv, ap_fend, decide_eq_true_eq, Bool.false_eq_true, if_false, if_true, Bool.not_true, Bool.not_false, Bool.not_eq_true, true_and, decide_false, and_false] at q ⊢
            exact q
        · simp only [h1, h2, ap_bnd, ap_ret, ap_grd, ap_and, ap_or, ap_ite, ap_thn, ap_thn_rt, ap_thnL, ap_thnL_rt, ap_lv, ap_fend, decide_eq_true_eq, Bool.false_eq_true, if_false, if_true, Bool.not_true, Bool.not_false, Bool.not_eq_true, true_and, decide_true, decide_false, and_false, false_and] at q ⊢
          exact q
      · simp only [h1, ap_bnd, ap_ret, ap_grd, ap_and, ap_or, ap_ite, ap_thn, ap_thn_rt, ap_thnL, ap_thnL_rt, ap_lv, ap_fend, decide_eq_true_eq, Bool.false_eq_true, if_false, if_true, Bool.not_true, Bool.not_false, Bool.not_eq_true, true_and, decide_false, and_false, false_and] at q ⊢
        exact q
  · have hf : (t.map fun c => [c]).filter (fun x => !dHas worthsL x) ≠ [] := fun z => hb (by
      rw [List.filter_eq_nil_iff] at z
      refine List.all_eq_true.mpr fun c hc => ?_
      have := z [c] (List.mem_map.mpr ⟨c, hc, rfl⟩)
      simpa using this)
    unfold readF at q
    simp only [ap_bnd, ap_ret, ap_grd, ap_and, ap_or, ap_thn, ap_thn_rt, ap_thnL, ap_thnL_rt, ap_lv, ap_fend, decide_eq_true_eq, Bool.false_eq_true, if_false, if_true, Bool.not_true, Bool.not_false, Bool.not_eq_true, true_and, hf, hb, decide_false, false_and] at q ⊢
    exact q
end K
namespace K
open PySem PySem.Spec PyProof.Rows L2 Dt
theorem chunk {c m : Nat} (h : (List.range m).all (fun k => okN (k + c)) = true) {k : Nat} (h1 : c ≤ k) (h2 : k < c + m) : okN k = true := by
  have := List.all_eq_true.mp h (k - c) (List.mem_range.mpr (by omega))
  rwa [Nat.sub_add_cancel h1] at this
theorem all_okN (k : Nat) (hk : k < 3999) : okN k = true := by
  rcases Nat.lt_or_ge k 50 with h0 | h0
  · exact chunk okc0 (by omega) h0
  rcases Nat.lt_or_ge k 100 with h1 | h1
  · exact chunk okc1 (by omega) h1
  rcases Nat.lt_or_ge k 150 with h2 | h2
  · exact chunk okc2 (by omega) h2
  rcases Nat.lt_or_ge k 200 with h3 | h3
  · exact chunk okc3 (by omega) h3
  rcases Nat.lt_or_ge k 250 with h4 | h4
  · exact chunk okc4 (by omega) h4
  rcases Nat.lt_or_ge k 300 with h5 | h5
  · exact chunk okc5 (by omega) h5
  rcases Nat.lt_or_ge k 350 with h6 | h6
  · exact chunk okc6 (by omega) h6
  rcases Nat.lt_or_ge k 400 with h7 | h7
  · exact chunk okc7 (by omega) h7
  rcases Nat.lt_or_ge k 450 with h8 | h8
  · exact chunk okc8 (by omega) h8
  rcases Nat.lt_or_ge k 500 with h9 | h9
  · exact chunk okc9 (by omega) h9
  rcases Nat.lt_or_ge k 550 with h10 | h10
  · exact chunk okc10 (by omega) h10
  rcases Nat.lt_or_ge k 600 with h11 | h11
  · exact chunk okc11 (by omega) h11
  rcases Nat.lt_or_ge k 650 with h12 | h12
  · exact chunk okc12 (by omega) h12
  rcases Nat.lt_or_ge k 700 with h13 | h13
  · exact chunk okc13 (by omega) h13
  rcases Nat.lt_or_ge k 750 with h14 | h14
  · exact chunk okc14 (by omega) h14
  rcases Nat.lt_or_ge k 800 with h15 | h15
  · exact chunk okc15 (by omega) h15
  rcases Nat.lt_or_ge k 850 with h16 | h16
  · exact chunk okc16 (by omega) h16
  rcases Nat.lt_or_ge k 900 with h17 | h17
  · exact chunk okc17 (by omega) h17
  rcases Nat.lt_or_ge k 950 with h18 | h18
  · exact chunk okc18 (by omega) h18
  rcases Nat.lt_or_ge k 1000 with h19 | h19
  · exact chunk okc19 (by omega) h19
  rcases Nat.lt_or_ge k 1050 with h20 | h20
  · exact chunk okc20 (by omega) h20
  rcases Nat.lt_or_ge k 1100 with h21 | h21
  · exact chunk okc21 (by omega) h21
  rcases Nat.lt_or_ge k 1150 with h22 | h22
  · exact chunk okc22 (by omega) h22
  rcases Nat.lt_or_ge k 1200 with h23 | h23
  · exact chunk okc23 (by omega) h23
  rcases Nat.lt_or_ge k 1250 with h24 | h24
  · exact chunk okc24 (by omega) h24
  rcases Nat.lt_or_ge k 1300 with h25 | h25
  · exact chunk okc25 (by omega) h25
  rcases Nat.lt_or_ge k 1350 with h26 | h26
  · exact chunk okc26 (by omega) h26
  rcases Nat.lt_or_ge k 1400 with h27 | h27
  · exact chunk okc27 (by omega) h27
  rcases Nat.lt_or_ge k 1450 with h28 | h28
  · exact chunk okc28 (by omega) h28
  rcases Nat.lt_or_ge k 1500 with h29 | h29
  · exact chunk okc29 (by omega) h29
  rcases Nat.lt_or_ge k 1550 with h30 | h30
  · exact chunk okc30 (by omega) h30
  rcases Nat.lt_or_ge k 1600 with h31 | h31
  · exact chunk okc31 (by omega) h31
  rcases Nat.lt_or_ge k 1650 with h32 | h32
  · exact chunk okc32 (by omega) h32
  rcases Nat.lt_or_ge k 1700 with h33 | h33
  · exact chunk okc33 (by omega) h33
  rcases Nat.lt_or_ge k 1750 with h34 | h34
  · exact chunk okc34 (by omega) h34
  rcases Nat.lt_or_ge k 1800 with h35 | h35
  · exact chunk okc35 (by omega) h35
  rcases Nat.lt_or_ge k 1850 with h36 | h36
  · exact chunk okc36 (by omega) h36
  rcases Nat.lt_or_ge k 1900 with h37 | h37
  · exact chunk okc37 (by omega) h37
  rcases Nat.lt_or_ge k 1950 with h38 | h38
  · exact chunk okc38 (by omega) h38
  rcases Nat.lt_or_ge k 2000 with h39 | h39
  · exact chunk okc39 (by omega) h39
  rcases Nat.lt_or_ge k 2050 with h40 | h40
  · exact chunk okc40 (by omega) h40
  rcases Nat.lt_or_ge k 2100 with h41 | h41
  · exact chunk okc41 (by omega) h41
  rcases Nat.lt_or_ge k 2150 with h42 | h42
  · exact chunk okc42 (by omega) h42
  rcases Nat.lt_or_ge k 2200 with h43 | h43
  · exact chunk okc43 (by omega) h43
  rcases Nat.lt_or_ge k 2250 with h44 | h44
  · exact chunk okc44 (by omega) h44
  rcases Nat.lt_or_ge k 2300 with h45 | h45
  · exact chunk okc45 (by omega) h45
  rcases Nat.lt_or_ge k 2350 with h46 | h46
  · exact chunk okc46 (by omega) h46
  rcases Nat.lt_or_ge k 2400 with h47 | h47
  · exact chunk okc47 (by omega) h47
  rcases Nat.lt_or_ge k 2450 with h48 | h48
  · exact chunk okc48 (by omega) h48
  rcases Nat.lt_or_ge k 2500 with h49 | h49
  · exact chunk okc49 (by omega) h49
  rcases Nat.lt_or_ge k 2550 with h50 | h50
  · exact chunk okc50 (by omega) h50
  rcases Nat.lt_or_ge k 2600 with h51 | h51
  · exact chunk okc51 (by omega) h51
  rcases Nat.lt_or_ge k 2650 with h52 | h52
  · exact chunk okc52 (by omega) h52
  rcases Nat.lt_or_ge k 2700 with h53 | h53
  · exact chunk okc53 (by omega) h53
  rcases Nat.lt_or_ge k 2750 with h54 | h54
  · exact chunk okc54 (by omega) h54
  rcases Nat.lt_or_ge k 2800 with h55 | h55
  · exact chunk okc55 (by omega) h55
  rcases Nat.lt_or_ge k 2850 with h56 | h56
  · exact chunk okc56 (by omega) h56
  rcases Nat.lt_or_ge k 2900 with h57 | h57
  · exact chunk okc57 (by omega) h57
  rcases Nat.lt_or_ge k 2950 with h58 | h58
  · exact chunk okc58 (by omega) h58
  rcases Nat.lt_or_ge k 3000 with h59 | h59
  · exact chunk okc59 (by omega) h59
  rcases Nat.lt_or_ge k 3050 with h60 | h60
  · exact chunk okc60 (by omega) h60
  rcases Nat.lt_or_ge k 3100 with h61 | h61
  · exact chunk okc61 (by omega) h61
  rcases Nat.lt_or_ge k 3150 with h62 | h62
  · exact chunk okc62 (by omega) h62
  rcases Nat.lt_or_ge k 3200 with h63 | h63
  · exact chunk okc63 (by omega) h63
  rcases Nat.lt_or_ge k 3250 with h64 | h64
  · exact chunk okc64 (by omega) h64
  rcases Nat.lt_or_ge k 3300 with h65 | h65
  · exact chunk okc65 (by omega) h65
  rcases Nat.lt_or_ge k 3350 with h66 | h66
  · exact chunk okc66 (by omega) h66
  rcases Nat.lt_or_ge k 3400 with h67 | h67
  · exact chunk okc67 (by omega) h67
  rcases Nat.lt_or_ge k 3450 with h68 | h68
  · exact chunk okc68 (by omega) h68
  rcases Nat.lt_or_ge k 3500 with h69 | h69
  · exact chunk okc69 (by omega) h69
  rcases Nat.lt_or_ge k 3550 with h70 | h70
  · exact chunk okc70 (by omega) h70
  rcases Nat.lt_or_ge k 3600 with h71 | h71
  · exact chunk okc71 (by omega) h71
  rcases Nat.lt_or_ge k 3650 with h72 | h72
  · exact chunk okc72 (by omega) h72
  rcases Nat.lt_or_ge k 3700 with h73 | h73
  · exact chunk okc73 (by omega) h73
  rcases Nat.lt_or_ge k 3750 with h74 | h74
  · exact chunk okc74 (by omega) h74
  rcases Nat.lt_or_ge k 3800 with h75 | h75
  · exact chunk okc75 (by omega) h75
  rcases Nat.lt_or_ge k 3850 with h76 | h76
  · exact chunk okc76 (by omega) h76
  rcases Nat.lt_or_ge k 3900 with h77 | h77
  · exact chunk okc77 (by omega) h77
  rcases Nat.lt_or_ge k 3950 with h78 | h78
  · exact chunk okc78 (by omega) h78
  exact chunk okc79 (by omega) (by omega)

theorem okN_of {n : Int} (h1 : 1 ≤ n) (h2 : n ≤ 3999) : lromF n = romF n ∧ numF (romF n) = some n ∧ readF (romF n) = some n ∧ 1 ≤ (romF n).length ∧ (romF n).length ≤ 20 ∧ ∀ c ∈ romF n, c < 128 := by
  have h := all_okN (n - 1).toNat (by omega)
  unfold okN at h
  have e : (((n - 1).toNat : Nat) : Int) + 1 = n := by omega
  rw [e] at h
  simp only [Bool.and_eq_true, decide_eq_true_eq, List.all_eq_true] at h
  obtain ⟨⟨⟨⟨⟨a, b⟩, c⟩, d⟩, f⟩, g⟩ := h
  exact ⟨a, b, c, d, f, g⟩
theorem numF_eq {t : Tx} {s : Int × Tx} (hs : g_ROMANS.foldl numStep (0, t) = s) : numF t = if s.2 = [] ∧ s.1 ≠ 0 ∧ s.1 ≤ 3999 ∧ romF s.1 = t then some s.1 else none := by
  unfold numF
  rw [hs]
theorem numF_nn (t : Tx) : 0 ≤ (g_ROMANS.foldl numStep (0, t)).1 := by
  refine foldl_inv (g := numStep) (fun s : Int × Tx => 0 ≤ s.1) (fun s p hp hs => ?_) (Int.le_refl _)
  exact loopN_inv (fun s : Int × Tx => 0 ≤ s.1) (fun s hs hc => by have := rom_mem p hp; show 0 ≤ s.1 + p.1; omega) 64 hs
theorem num_pos {t : Tx} {k : Int} (h : numF t = some k) : 1 ≤ k ∧ k ≤ 3999 ∧ romF k = t := by
  have hI := numF_nn t
  generalize hs : g_ROMANS.foldl numStep (0, t) = s at hI
  rw [numF_eq hs] at h
  by_cases z : s.2 = [] ∧ s.1 ≠ 0 ∧ s.1 ≤ 3999 ∧ romF s.1 = t
  · rw [if_pos z] at h
    have e : s.1 = k := Option.some.inj h
    rw [← e]
    exact ⟨by have := z.2.1; omega, z.2.2.1, z.2.2.2⟩
  · rw [if_neg z] at h
    cases h
theorem read_pos {t : Tx} {k : Int} (h : readF t = some k) : 1 ≤ k ∧ k ≤ 3999 ∧ lromF k = t := by
  unfold readF at h
  split at h
  · rename_i z
    cases h
    exact ⟨z.2.1, z.2.2.1, z.2.2.2⟩
  · cases h
/-- both read alike -/
theorem agree (t : Tx) : numF t = readF t := by
  cases e : numF t with
  | some k =>
    obtain ⟨h1, h2, h3⟩ := num_pos e
    rw [← h3]
    exact (okN_of h1 h2).2.2.1.symm
  | none =>
    cases f : readF t with
    | none => rfl
    | some k =>
      obtain ⟨h1, h2, h3⟩ := read_pos f
      have o := okN_of h1 h2
      rw [o.1] at h3
      rw [← h3, o.2.1] at e
      cases e
/-! ### letters -/
def letL (n : Nat) : Tx := if n = 0 then [] else letL ((n - 1) / 26) ++ [97 + (n - 1) % 26]
termination_by n
decreasing_by omega
theorem letL0 : letL 0 = [] := by unfold letL; rfl
theorem letL_pos {n : Nat} (h : n ≠ 0) : letL n = letL ((n - 1) / 26) ++ [97 + (n - 1) % 26] := by
  rw [letL, if_neg h]
def abc : Tx := [97, 98, 99, 100, 101, 102, 103, 104, 105, 106, 107, 108, 109, 110, 111, 112, 113, 114, 115, 116, 117, 118, 119, 120, 121, 122]
theorem abc_at (i : Nat) (h : i < 26) : abc.getD i 0 = 97 + i := by
  have : ∀ i ∈ List.range 26, abc.getD i 0 = 97 + i := by decide
  exact this i (List.mem_range.mpr h)
theorem abc_ix : ∀ c ∈ abc, abc.idxOf? c = some (c - 97) ∧ 97 ≤ c ∧ c ≤ 122 := by decide
theorem abc_mem (i : Nat) (h : i < 26) : 97 + i ∈ abc := by
  have : ∀ i ∈ List.range 26, 97 + i ∈ abc := by decide
  exact this i (List.mem_range.mpr h)
theorem letL_abc (n : Nat) : ∀ c ∈ letL n, c ∈ abc := by
  induction n using Nat.strongRecOn with
  | ind n ih =>
    intro c hc
    by_cases h : n = 0
    · subst h; rw [letL0] at hc; cases hc
    · rw [letL_pos h] at hc
      rcases List.mem_append.mp hc with hc | hc
      · exact ih _ (by omega) c hc
      · rw [List.mem_singleton.mp hc]
        exact abc_mem _ (by omega)
theorem letL_len (n : Nat) : (letL n).length ≤ n := by
  induction n using Nat.strongRecOn with
  | ind n ih =>
    by_cases h : n = 0
    · subst h; rw [letL0]; exact Nat.le_refl _
    · rw [letL_pos h, List.length_append, List.length_singleton]
      have := ih ((n - 1) / 26) (by omega)
      omega
theorem letL_ne {n : Nat} (h : n ≠ 0) : letL n ≠ [] := by
  rw [letL_pos h]
  simp
def valS (s : Int) (c : Nat) : Int := 26 * s + ((c - 97 : Nat) : Int) + 1
theorem letL_val (n : Nat) : (letL n).foldl valS 0 = (n : Int) := by
  induction n using Nat.strongRecOn with
  | ind n ih =>
    by_cases h : n = 0
    · subst h; rw [letL0]; rfl
    · rw [letL_pos h, List.foldl_append, ih _ (by omega)]
      show 26 * _ + (((97 + (n - 1) % 26) - 97 : Nat) : Int) + 1 = _
      omega
theorem letters_ok {n : Nat} {Φ : Tx → Prop} (hn : n ≤ 1000000) (q : Φ (letL n)) : w_letters_number n Φ := by
  have hz : 1000001 < sizeLine := by decide
  show b_letters_number n (fun o => fend o Φ)
  unfold b_letters_number
  simp only [ap_bnd, ap_ret, ap_grd, ap_and, ap_or, ap_thn, ap_thn_rt, ap_thnL, ap_thnL_rt, ap_lv, ap_fend, decide_eq_true_eq, Bool.false_eq_true, if_false, if_true, Bool.not_true, Bool.not_false, Bool.not_eq_true, true_and]
  refine wh_inv (fun s => 0 ≤ s.1 ∧ s.2.length + s.1.toNat ≤ 1000000 ∧ letL s.1.toNat ++ s.2 = letL n) (fun s => s.1.toNat) (fun s hI Ψ hΨ => ?_) ⟨by show (0 : Int) ≤ n; omega, by show ([] : Tx).length + n ≤ _; simpa using hn, List.append_nil _⟩
  simp only [ap_bnd, ap_ret, ap_grd, ap_and, ap_or, ap_thn, ap_thn_rt, ap_thnL, ap_thnL_rt, ap_lv, ap_fend, decide_eq_true_eq, Bool.false_eq_true, if_false, if_true, Bool.not_true, Bool.not_false, Bool.not_eq_true, true_and]
  refine hΨ _ (fun hb Θ h1 _ _ _ => ?_) (fun hb => ?_)
  · have hb := of_decide_eq_true hb
    have d := fdiv_nn (s.1 - 1) (y := 26) (by decide)
    have m := fmod_nn (s.1 - 1) (y := 26) (by decide)
    simp only [ap_bnd, ap_ret, ap_grd, ap_and, ap_or, ap_thn, ap_thn_rt, ap_thnL, ap_thnL_rt, ap_lv, ap_fend, decide_eq_true_eq, Bool.false_eq_true, if_false, if_true, Bool.not_true, Bool.not_false, Bool.not_eq_true, true_and]
    refine wMod_ok (by decide) (wIx_getD (xs := abc) (d := 0) (by omega) (by show _ < (26 : Int); omega) (wCat_ok (by show 1 + s.2.length ≤ _; omega) (wDiv_ok (by decide) (by decide) (h1 _ ⟨?_, ?_, ?_⟩ ?_))))
    · show 0 ≤ (s.1 - 1).fdiv 26
      omega
    · show ([_] ++ s.2).length + ((s.1 - 1).fdiv 26).toNat ≤ _
      rw [List.length_append, List.length_singleton]
      omega
    · show letL ((s.1 - 1).fdiv 26).toNat ++ ([abc.getD ((s.1 - 1).fmod 26).toNat 0] ++ s.2) = _
      rw [← hI.2.2, letL_pos (n := s.1.toNat) (by omega), abc_at _ (by omega), List.append_assoc]
      have e1 : ((s.1 - 1).fdiv 26).toNat = (s.1.toNat - 1) / 26 := by omega
      have e2 : ((s.1 - 1).fmod 26).toNat = (s.1.toNat - 1) % 26 := by omega
      rw [e1, e2]
    · show ((s.1 - 1).fdiv 26).toNat < _
      omega
  · have hb := of_decide_eq_false hb
    have e : s.1.toNat = 0 := by omega
    have h2 := hI.2.2
    rw [e, letL0, List.nil_append] at h2
    simp only [ap_bnd, ap_ret, ap_grd, ap_and, ap_or, ap_ite, ap_thn, ap_thn_rt, ap_thnL, ap_thnL_rt, ap_lv, ap_fend, decide_eq_true_eq, Bool.false_eq_true, if_false, if_true, Bool.not_true, Bool.not_false, Bool.not_eq_true, true_and]
    rw [h2]
    exact q
/-! by how many there are of each length -/
def bef : Nat → Nat
  | 0 => 0
  | s + 1 => bef s + (if s = 0 then 0 else 26 ^ s)
theorem bef_s (s : Nat) (h : 1 ≤ s) : bef (s + 1) = 26 * (bef s + 1) := by
  induction s with
  | zero => omega
  | succ s ih =>
    by_cases h0 : s = 0
    · subst h0; rfl
    · have ih := ih (by omega)
      show bef (s + 1) + (if s + 1 = 0 then 0 else 26 ^ (s + 1)) = 26 * ((bef s + (if s = 0 then 0 else 26 ^ s)) + 1)
      rw [if_neg (by omega), if_neg h0, ih, Nat.pow_succ]
      omega
def fixL : Nat → Nat → Tx
  | 0, _ => []
  | s + 1, x => fixL s (x / 26) ++ [97 + x % 26]
theorem letL_fix (s n : Nat) (h : 1 ≤ s) (h1 : bef s < n) (h2 : n ≤ bef (s + 1)) : letL n = fixL s (n - bef s - 1) := by
  induction s generalizing n with
  | zero => omega
  | succ s ih =>
    by_cases h0 : s = 0
    · subst h0
      have e1 : bef 1 = 0 := rfl
      have e2 : bef 2 = 26 := rfl
      have h2' : n ≤ 26 := h2
      have h1' : 0 < n := h1
      rw [letL_pos (by omega), show (n - 1) / 26 = 0 by omega, letL0]
      rfl
    · have e1 := bef_s s (by omega)
      have e2 := bef_s (s + 1) (by omega)
      have z := ih ((n - 1) / 26) (by omega) (by omega) (by omega)
      rw [letL_pos (by omega), z]
      show _ = fixL s ((n - bef (s + 1) - 1) / 26) ++ [97 + (n - bef (s + 1) - 1) % 26]
      have e3 : (n - bef (s + 1) - 1) / 26 = (n - 1) / 26 - bef s - 1 := by omega
      have e4 : (n - bef (s + 1) - 1) % 26 = (n - 1) % 26 := by omega
      rw [e3, e4]
theorem lettered_ok {n : Nat} {Φ : Tx → Prop} (h0 : 1 ≤ n) (hn : n ≤ 1000000) (q : Φ (letL n)) : w_law_lettered n Φ := by
  have hz : 1000001 < sizeLine := by decide
  show b_law_lettered n (fun o => fend o Φ)
  unfold b_law_lettered
  simp only [ap_bnd, ap_ret, ap_grd, ap_and, ap_or, ap_thn, ap_thn_rt, ap_thnL, ap_thnL_rt, ap_lv, ap_fend, decide_eq_true_eq, Bool.false_eq_true, if_false, if_true, Bool.not_true, Bool.not_false, Bool.not_eq_true, true_and]
  refine wRng_of (by decide) (by decide) (by decide) (by decide) (by decide) ?_
  refine frW_inv (fun i (s : Int × Int × Int) => ∃ z : Nat, 1 ≤ z ∧ z ≤ i + 1 ∧ s = ((z : Int), (bef z : Int), ((26 ^ z : Nat) : Int)) ∧ bef z < n ∧ (n ≤ bef (z + 1) ∨ z = i + 1)) (fun i s x hx hI Ψ hn _ _ _ => ?_) (fun s hI => ?_) ⟨1, Nat.le_refl _, Nat.le_refl _, rfl, h0, .inr rfl⟩
  · obtain ⟨z, hz1, hz2, rfl, hz3, hz4⟩ := hI
    have hi : i < 6 := by
      have := (List.getElem?_eq_some_iff.mp hx).1
      rw [rng_len] at this
      omega
    have eb : bef (z + 1) = bef z + 26 ^ z := by
      show bef z + (if z = 0 then 0 else 26 ^ z) = _
      rw [if_neg (by omega)]
    simp only [ap_bnd, ap_ret, ap_grd, ap_and, ap_or, ap_thn, ap_thn_rt, ap_thnL, ap_thnL_rt, ap_lv, ap_fend, decide_eq_true_eq, Bool.false_eq_true, if_false, if_true, Bool.not_true, Bool.not_false, Bool.not_eq_true, true_and]
    refine if_join (fun s => ∃ z : Nat, 1 ≤ z ∧ z ≤ i + 1 + 1 ∧ s = ((z : Int), (bef z : Int), ((26 ^ z : Nat) : Int)) ∧ bef z < n ∧ (n ≤ bef (z + 1) ∨ z = i + 1 + 1)) (fun hc Θ h _ _ _ => ?_) (fun hc Θ h _ _ _ => ?_) (fun s hs => hn _ hs)
    · simp only [ap_bnd, ap_ret, ap_grd, ap_and, ap_or, ap_thn, ap_thn_rt, ap_thnL, ap_thnL_rt, ap_lv, ap_fend, decide_eq_true_eq, Bool.false_eq_true, if_false, if_true, Bool.not_true, Bool.not_false, Bool.not_eq_true, true_and]
      refine wMul_okR (by decide) (h _ ⟨z + 1, by omega, by omega, ?_, by omega, .inr (by omega)⟩)
      rw [eb, Nat.pow_succ]
      simp
    · exact h _ ⟨z, hz1, by omega, rfl, hz3, .inl (by omega)⟩
  · obtain ⟨z, hz1, hz2, rfl, hz3, hz4⟩ := hI
    have hz5 : z ≤ 7 := by
      rw [rng_len] at hz2
      omega
    have hz6 : n ≤ bef (z + 1) := by
      rcases hz4 with h | h
      · exact h
      · have e : z = 7 := by
          rw [rng_len] at h
          omega
        subst e
        have : bef 7 = 321272406 := by decide
        omega
    simp only [ap_bnd, ap_ret, ap_grd, ap_and, ap_or, ap_thn, ap_thn_rt, ap_thnL, ap_thnL_rt, ap_lv, ap_fend, decide_eq_true_eq, Bool.false_eq_true, if_false, if_true, Bool.not_true, Bool.not_false, Bool.not_eq_true, true_and]
    refine wRng_ok (by omega) ?_
    refine frW_inv (fun i (s : Tx × Int) => s.1.length ≤ i ∧ ∃ x : Nat, s.2 = (x : Int) ∧ fixL (z - i) x ++ s.1 = fixL z (n - bef z - 1)) (fun i s x hx hI Ψ hn _ _ _ => ?_) (fun s hI => ?_) ⟨Nat.le_refl _, n - bef z - 1, by show (n : Int) - bef z - 1 = _; omega, List.append_nil _⟩
    · have hi : i < z := by
        have := (List.getElem?_eq_some_iff.mp hx).1
        rw [rng_len] at this
        omega
      obtain ⟨hl, x, he, hx2⟩ := hI
      have d := fdiv_nn s.2 (y := 26) (by decide)
      have m := fmod_nn s.2 (y := 26) (by decide)
      simp only [ap_bnd, ap_ret, ap_grd, ap_and, ap_or, ap_thn, ap_thn_rt, ap_thnL, ap_thnL_rt, ap_lv, ap_fend, decide_eq_true_eq, Bool.false_eq_true, if_false, if_true, Bool.not_true, Bool.not_false, Bool.not_eq_true, true_and]
      refine wMod_ok (by decide) (wIx_getD (xs := abc) (d := 0) (by omega) (by show _ < (26 : Int); omega) (wCat_ok (by show 1 + s.1.length ≤ _; omega) (wDiv_ok (by decide) (by decide) (hn _ ⟨?_, x / 26, ?_, ?_⟩))))
      · show ([_] ++ s.1).length ≤ _
        rw [List.length_append, List.length_singleton]
        omega
      · show s.2.fdiv 26 = _
        omega
      · show fixL (z - (i + 1)) (x / 26) ++ ([abc.getD (s.2.fmod 26).toNat 0] ++ s.1) = _
        rw [← hx2, abc_at _ (by omega), show (s.2.fmod 26).toNat = x % 26 by omega, show z - i = (z - (i + 1)) + 1 by omega]
        show _ = (fixL (z - (i + 1)) (x / 26) ++ [97 + x % 26]) ++ s.1
        rw [List.append_assoc]
    · obtain ⟨hl, x, he, hx2⟩ := hI
      rw [rng_len, show z - ((z : Int) - 0).toNat = 0 by omega] at hx2
      simp only [ap_bnd, ap_ret, ap_grd, ap_and, ap_or, ap_ite, ap_thn, ap_thn_rt, ap_thnL, ap_thnL_rt, ap_lv, ap_fend, decide_eq_true_eq, Bool.false_eq_true, if_false, if_true, Bool.not_true, Bool.not_false, Bool.not_eq_true, true_and]
      rw [show s.1 = letL n by rw [letL_fix z n hz1 hz3 hz6, ← hx2]; rfl]
      exact q
theorem numl_none {t : Tx} {Φ : Option Int → Prop} (h : t = [] ∨ ∃ c ∈ t, c ∉ abc) (q : Φ none) : w_number_of_letters t Φ := by
  show b_number_of_letters t (fun o => fend o Φ)
  unfold b_number_of_letters
  simp only [ap_bnd, ap_ret, ap_grd, ap_and, ap_or, ap_thn, ap_thn_rt, ap_thnL, ap_thnL_rt, ap_lv, ap_fend, decide_eq_true_eq, Bool.false_eq_true, if_false, if_true, Bool.not_true, Bool.not_false, Bool.not_eq_true, true_and]
  by_cases h0 : t = []
  · simp only [h0, ap_bnd, ap_ret, ap_grd, ap_and, ap_or, ap_ite, ap_thn, ap_thn_rt, ap_thnL, ap_thnL_rt, ap_lv, ap_fend, decide_eq_true_eq, Bool.false_eq_true, if_false, if_true, Bool.not_true, Bool.not_false, Bool.not_eq_true, true_and]
    exact q
  · have hc : ∃ c ∈ t, c ∉ abc := by
      rcases h with h | h
      · exact absurd h h0
      · exact h
    simp only [h0, ap_bnd, ap_ret, ap_grd, ap_and, ap_or, ap_ite, ap_thn, ap_thn_rt, ap_thnL, ap_thnL_rt, ap_lv, ap_fend, decide_eq_true_eq, Bool.false_eq_true, if_false, if_true, Bool.not_true, Bool.not_false, Bool.not_eq_true, true_and]
    refine cmW_map (fun x => decide (x.getD 0 0 ∈ abc)) (fun x hx Θ z => ?_) ?_
    · obtain ⟨c, _, rfl⟩ := List.mem_map.mp hx
      exact ⟨c, rfl, z⟩
    · have e : ((t.map fun c => [c]).map fun x => decide (x.getD 0 0 ∈ abc)).all id = false := by
        obtain ⟨c, hc, hn⟩ := hc
        rw [List.all_eq_false]
        refine ⟨false, ?_, by decide⟩
        rw [List.mem_map]
        exact ⟨[c], List.mem_map.mpr ⟨c, hc, rfl⟩, by simpa using hn⟩
      simp only [e, ap_bnd, ap_ret, ap_grd, ap_and, ap_or, ap_ite, ap_thn, ap_thn_rt, ap_thnL, ap_thnL_rt, ap_lv, ap_fend, decide_eq_true_eq, Bool.false_eq_true, if_false, if_true, Bool.not_true, Bool.not_false, Bool.not_eq_true, true_and]
      exact q
theorem numl_some {t : Tx} {Φ : Option Int → Prop} (h : t ≠ []) (hc : ∀ c ∈ t, c ∈ abc) (q : Φ (some (t.foldl valS 0))) : w_number_of_letters t Φ := by
  show b_number_of_letters t (fun o => fend o Φ)
  unfold b_number_of_letters
  simp only [ap_bnd, ap_ret, ap_grd, ap_and, ap_or, ap_thn, ap_thn_rt, ap_thnL, ap_thnL_rt, ap_lv, ap_fend, decide_eq_true_eq, Bool.false_eq_true, if_false, if_true, Bool.not_true, Bool.not_false, Bool.not_eq_true, true_and]
  simp only [h, ap_bnd, ap_ret, ap_grd, ap_and, ap_or, ap_ite, ap_thn, ap_thn_rt, ap_thnL, ap_thnL_rt, ap_lv, ap_fend, decide_eq_true_eq, Bool.false_eq_true, if_false, if_true, Bool.not_true, Bool.not_false, Bool.not_eq_true, true_and]
  refine cmW_map (fun x => decide (x.getD 0 0 ∈ abc)) (fun x hx Θ z => ?_) ?_
  · obtain ⟨c, _, rfl⟩ := List.mem_map.mp hx
    exact ⟨c, rfl, z⟩
  · have e : ((t.map fun c => [c]).map fun x => decide (x.getD 0 0 ∈ abc)).all id = true := by
      rw [List.all_eq_true]
      intro b hb
      obtain ⟨x, hx, rfl⟩ := List.mem_map.mp hb
      obtain ⟨c, hc', rfl⟩ := List.mem_map.mp hx
      simpa using hc c hc'
    simp only [e, ap_bnd, ap_ret, ap_grd, ap_and, ap_or, ap_ite, ap_thn, ap_thn_rt, ap_thnL, ap_thnL_rt, ap_lv, ap_fend, decide_eq_true_eq, Bool.false_eq_true, if_false, if_true, Bool.not_true, Bool.not_false, Bool.not_eq_true, true_and]
    refine frW_fold (fun s (x : Tx) => valS s (x.getD 0 0)) (fun _ => True) (fun s x hx _ => ⟨trivial, fun Ψ hΨ => ?_⟩) trivial ?_
    · obtain ⟨c, hc', rfl⟩ := List.mem_map.mp hx
      simp only [ap_bnd, ap_ret, ap_grd, ap_and, ap_or, ap_thn, ap_thn_rt, ap_thnL, ap_thnL_rt, ap_lv, ap_fend, decide_eq_true_eq, Bool.false_eq_true, if_false, if_true, Bool.not_true, Bool.not_false, Bool.not_eq_true, true_and]
      exact wMul_okL (by decide) ⟨c, c - 97, rfl, (abc_ix c (hc c hc')).1, hΨ⟩
    · rw [List.foldl_map]
      exact q
end K
namespace K
open PySem PySem.Spec PyProof.Rows L2 Dt
theorem cut_len {α : Type} (xs : List α) (lo hi : Option Int) : (cut xs lo hi).length ≤ xs.length := by
  unfold cut
  rw [List.length_take, List.length_drop]
  omega
theorem lrom_ok' {n : Int} {Φ : Tx → Prop} (h0 : 1 ≤ n) (h1 : n ≤ 3999) (q : Φ (romF n)) : w_law_roman n Φ := lrom_ok (by omega) h1 (by rw [(okN_of h0 h1).1]; exact q)
theorem ok_num (t : Tx) : okD 8 (eO D.int (numF t)) := by
  cases e : numF t with
  | none => trivial
  | some k =>
    have := num_pos e
    exact ok_int 8 (by omega)
/-- both read a text alike -/
theorem both {t : Tx} (hl : t.length ≤ 60) {Ψ : Bool → Prop} (q : Ψ true) : cl (w_roman_number t) fun x => cl (w_law_read t) fun y => wSame 8 (eO D.int) x y Ψ :=
  le_cl (rnum_ok hl (le_cl (read_ok hl ⟨agree t, ok_num t, q⟩)))
theorem strI_sgn (n : Int) : ∀ c ∈ strI n, c < 16 ^ 8 := by
  intro c hc
  unfold strI at hc
  rw [PyProof.Rows.signs_ofString] at hc
  obtain ⟨d, _, rfl⟩ := List.mem_map.mp hc
  exact d.val.toNat_lt
theorem strI_len7 {n : Int} (h : n.natAbs < 10 ^ 7) : (strI n).length ≤ 8 := by
  have := int_text_length_le10 (k := 7) (by decide) h
  rw [← PySem.ofString_length] at this
  simpa [strI, Str.length] using this
theorem padded_ok {n sz : Int} {Φ : Tx → Prop} (h : n.natAbs < 10 ^ 40) (h0 : 0 ≤ sz) (h1 : sz ≤ 9) (q : Φ (List.replicate (sz.toNat - (strI n).length) 48 ++ strI n)) : w_padded n sz Φ := by
  show b_padded n sz (fun o => fend o Φ)
  unfold b_padded
  simp only [ap_bnd, ap_ret, ap_grd, ap_and, ap_or, ap_thn, ap_thn_rt, ap_thnL, ap_thnL_rt, ap_lv, ap_fend, decide_eq_true_eq, Bool.false_eq_true, if_false, if_true, Bool.not_true, Bool.not_false, Bool.not_eq_true, true_and]
  exact ⟨h, 48, rfl, by omega, by omega, q⟩
theorem law_true (ns : List Int) (Φ : Bool → Prop) (h : ns.length ≤ 63) (q : Φ true) : bnd (b_law ns) fend Φ := by
  have hz := sl_big
  have hz2 : 1000001 < sizeLine := by decide
  unfold b_law
  simp only [ap_bnd, ap_ret, ap_grd, ap_and, ap_or, ap_thn, ap_thn_rt, ap_thnL, ap_thnL_rt, ap_lv, ap_fend, decide_eq_true_eq, Bool.false_eq_true, if_false, if_true, Bool.not_true, Bool.not_false, Bool.not_eq_true, true_and]
  refine le_cl (digits_ok fun ds _ => ?_)
  refine wRng_of (by decide) (by decide) (by decide) (by decide) (by decide) ?_
  refine frW_inv0 (fun (_ : Unit) => True) (fun s x hx _ Ψ hn _ hr _ => ?_) (fun s _ => ?_) trivial
  · simp only [ap_bnd, ap_ret, ap_grd, ap_and, ap_or, ap_thn, ap_thn_rt, ap_thnL, ap_thnL_rt, ap_lv, ap_fend, decide_eq_true_eq, Bool.false_eq_true, if_false, if_true, Bool.not_true, Bool.not_false, Bool.not_eq_true, true_and]
    refine le_cl ⟨by decide, fun d1 a1 b1 => ?_⟩
    refine le_cl ⟨by decide, fun d2 a2 b2 => ?_⟩
    refine wMul_okR (by decide) ?_
    refine ⟨List.cons_ne_nil _ _, fun n hm => ?_⟩
    have hn0 : 1 ≤ n ∧ n ≤ 3999 := by
      simp only [List.mem_cons, List.not_mem_nil, or_false] at hm
      omega
    obtain ⟨h0, h1⟩ := hn0
    obtain ⟨o1, o2, o3, o4, o5, o6⟩ := okN_of h0 h1
    refine le_cl (lrom_ok' h0 h1 ?_)
    refine le_cl (roman_ok (by omega) h1 ⟨rfl, ok_tx 8 (by omega) (fun c hc => Nat.lt_of_lt_of_le (o6 c hc) (by decide)), ?_⟩)
    simp only [ap_bnd, ap_ret, ap_grd, ap_and, ap_or, ap_thn, ap_thn_rt, ap_thnL, ap_thnL_rt, ap_lv, ap_fend, decide_eq_true_eq, Bool.false_eq_true, if_false, if_true, Bool.not_true, Bool.not_false, Bool.not_eq_true, true_and]
    refine le_cl (rnum_ok (by omega) ⟨o2, ok_num _, ?_⟩)
    simp only [ap_bnd, ap_ret, ap_grd, ap_and, ap_or, ap_thn, ap_thn_rt, ap_thnL, ap_thnL_rt, ap_lv, ap_fend, decide_eq_true_eq, Bool.false_eq_true, if_false, if_true, Bool.not_true, Bool.not_false, Bool.not_eq_true, true_and]
    generalize romF n = t at o4 o5 o6
    refine le_cl ⟨by omega, fun at' a3 b3 => ?_⟩
    refine ⟨by decide, fun c hc => ?_⟩
    have l1 := cut_len t none (some at')
    have l2 := cut_len t (some at') none
    have l3 := cut_len t (some (at' + 1)) none
    refine wCat_ok (by show _ + 1 ≤ _; omega) (wCat_ok (by rw [List.length_append]; show _ + 1 + _ ≤ _; omega) (wCat_ok (by omega) (wCat_ok (by show _ + 1 ≤ _; omega) (wCat_ok (by rw [List.length_append]; show _ + 1 + _ ≤ _; omega) (wCat_ok (by show _ + 1 ≤ _; omega) ?_)))))
    refine frW_inv0 (fun (_ : Unit) => True) (fun s x hx _ Ψ hn _ hr _ => ?_) (fun s _ => ?_) trivial
    · have hl : x.length ≤ 60 := by
        simp only [List.mem_cons, List.not_mem_nil, or_false] at hx
        rcases hx with rfl | rfl | rfl | rfl <;> simp only [List.length_append, List.length_singleton] <;> omega
      simp only [ap_bnd, ap_ret, ap_grd, ap_and, ap_or, ap_thn, ap_thn_rt, ap_thnL, ap_thnL_rt, ap_lv, ap_fend, decide_eq_true_eq, Bool.false_eq_true, if_false, if_true, Bool.not_true, Bool.not_false, Bool.not_eq_true, true_and]
      refine both hl ?_
      simp only [ap_bnd, ap_ret, ap_grd, ap_and, ap_or, ap_thn, ap_thn_rt, ap_thnL, ap_thnL_rt, ap_lv, ap_fend, decide_eq_true_eq, Bool.false_eq_true, if_false, if_true, Bool.not_true, Bool.not_false, Bool.not_eq_true, true_and]
      exact hn _ trivial
    · exact hn _ trivial
  · simp only [ap_bnd, ap_ret, ap_grd, ap_and, ap_or, ap_thn, ap_thn_rt, ap_thnL, ap_thnL_rt, ap_lv, ap_fend, decide_eq_true_eq, Bool.false_eq_true, if_false, if_true, Bool.not_true, Bool.not_false, Bool.not_eq_true, true_and]
    refine le_cl ⟨by decide, fun d1 a1 b1 => ?_⟩
    refine wRng_of (by decide) (by omega) (by omega) (by decide) (by omega) ?_
    refine cmW_all (fun y => y.length = 1) (fun x hx Θ hΘ => ⟨by decide, fun c hc => hΘ _ rfl⟩) fun ys hy hp => ?_
    rw [rng_len] at hy
    have hs : (ys.map List.length).sum = ys.length := by
      clear hy
      induction ys with
      | nil => rfl
      | cons y ys ih =>
        rw [List.map_cons, List.sum_cons, hp y (List.mem_cons_self ..), ih fun z hz => hp z (List.mem_cons_of_mem _ hz), List.length_cons]
        omega
    refine ⟨by show _ + _ * 0 ≤ _; omega, ?_⟩
    have hw := joinT_len [] ys
    rw [hs] at hw
    have hw : (joinT [] ys).length ≤ 60 := by
      have : ys.length * ([] : Tx).length = 0 := Nat.mul_zero _
      omega
    generalize joinT [] ys = wild at hw
    refine both hw ?_
    simp only [ap_bnd, ap_ret, ap_grd, ap_and, ap_or, ap_thn, ap_thn_rt, ap_thnL, ap_thnL_rt, ap_lv, ap_fend, decide_eq_true_eq, Bool.false_eq_true, if_false, if_true, Bool.not_true, Bool.not_false, Bool.not_eq_true, true_and]
    refine le_cl (rnum_ok (by decide) ?_)
    refine ⟨by decide +kernel, ok_num _, ?_⟩
    simp only [ap_bnd, ap_ret, ap_grd, ap_and, ap_or, ap_thn, ap_thn_rt, ap_thnL, ap_thnL_rt, ap_lv, ap_fend, decide_eq_true_eq, Bool.false_eq_true, if_false, if_true, Bool.not_true, Bool.not_false, Bool.not_eq_true, true_and]
    refine le_cl ⟨by decide, fun d2 a2 b2 => wMul_okR (by decide) (le_cl ⟨by decide, fun d3 a3 b3 => ?_⟩)⟩
    refine ⟨List.cons_ne_nil _ _, fun n hm => ?_⟩
    have hn0 : 1 ≤ n ∧ n ≤ 1000000 := by
      simp only [List.mem_cons, List.not_mem_nil, or_false] at hm
      omega
    obtain ⟨m, rfl⟩ : ∃ m : Nat, n = (m : Int) := ⟨n.toNat, by omega⟩
    have ll := letL_len m
    have la := letL_abc m
    have ln := letL_ne (n := m) (by omega)
    refine le_cl (lettered_ok (by omega) (by omega) ?_)
    refine le_cl (letters_ok (by omega) ⟨rfl, ok_tx 8 (by omega) (fun c hc => by have := (abc_ix c (la c hc)).2.2; omega), ?_⟩)
    simp only [ap_bnd, ap_ret, ap_grd, ap_and, ap_or, ap_thn, ap_thn_rt, ap_thnL, ap_thnL_rt, ap_lv, ap_fend, decide_eq_true_eq, Bool.false_eq_true, if_false, if_true, Bool.not_true, Bool.not_false, Bool.not_eq_true, true_and]
    refine le_cl (numl_some ln la ⟨by rw [letL_val], by rw [letL_val]; exact ok_int 8 (by omega), ?_⟩)
    simp only [ap_bnd, ap_ret, ap_grd, ap_and, ap_or, ap_thn, ap_thn_rt, ap_thnL, ap_thnL_rt, ap_lv, ap_fend, decide_eq_true_eq, Bool.false_eq_true, if_false, if_true, Bool.not_true, Bool.not_false, Bool.not_eq_true, true_and]
    refine wCat_ok (by show _ + 1 ≤ _; omega) ?_
    refine cmW_fm (fun _ => false) (fun x => x) (fun x hx Θ z => ?_) (fun x hx hb => nomatch hb) ?_
    · have bad : x = [] ∨ ∃ c ∈ x, c ∉ abc := by
        simp only [List.mem_cons, List.not_mem_nil, or_false] at hx
        rcases hx with rfl | rfl | rfl | rfl | rfl
        · exact .inl rfl
        · exact .inr ⟨65, by decide, by decide⟩
        · exact .inr ⟨49, by decide, by decide⟩
        · exact .inr ⟨32, by decide, by decide⟩
        · exact .inr ⟨45, by simp, by decide⟩
      simp only [ap_bnd, ap_ret, ap_grd, ap_and, ap_or, ap_thn, ap_thn_rt, ap_thnL, ap_thnL_rt, ap_lv, ap_fend, decide_eq_true_eq, Bool.false_eq_true, if_false, if_true, Bool.not_true, Bool.not_false, Bool.not_eq_true, true_and]
      exact le_cl (numl_none bad z)
    · have e : ∀ l : List Tx, (l.filter fun _ => false).map (fun x => x) = [] := fun l => by simp
      rw [e]
      simp only [ap_bnd, ap_ret, ap_grd, ap_and, ap_or, ap_thn, ap_thn_rt, ap_thnL, ap_thnL_rt, ap_lv, ap_fend, decide_eq_true_eq, Bool.false_eq_true, if_false, if_true, Bool.not_true, Bool.not_false, Bool.not_eq_true, true_and, decide_true]
      refine le_cl ⟨by decide, fun sz a4 b4 => ?_⟩
      have hl := strI_len7 (n := m) (by omega)
      have hc := strI_sgn (m : Int)
      have hm10 : (m : Int).natAbs < 10 ^ 40 := by omega
      refine ⟨hm10, ?_⟩
      refine le_cl (padded_ok hm10 (by omega) (by omega) ?_)
      generalize strI (m : Int) = s at hl hc
      have e2 : (if sz - (s.length : Int) > 0 then sz - (s.length : Int) else 0) = ((sz.toNat - s.length : Nat) : Int) := by
        split <;> omega
      rw [e2]
      have e3 : (List.replicate (sz.toNat - s.length) ([48] : Tx)).flatten = List.replicate (sz.toNat - s.length) 48 := by simp
      refine ⟨⟨by omega, by show 1 * _ ≤ _; omega, by omega⟩, ?_⟩
      rw [Int.toNat_natCast, e3]
      refine wCat_ok (by rw [List.length_replicate]; omega) ⟨rfl, ok_tx 8 (by rw [List.length_append, List.length_replicate]; omega) (fun c h => ?_), q⟩
      rcases List.mem_append.mp h with h | h
      · rw [List.eq_of_mem_replicate h]
        decide
      · exact hc c h
end K
namespace K
open PySem PySem.Spec PyProof.Rows L2 Dt
theorem all_mk {l : PySem.W.OpenLaw} {w : World} {K : PySem.W.Frag} {h : Heap} {mg : Str → Option Value} {fa f0 f1 f2 f3 f4 f5 f6 f7 f8 f9 f10 f11 f12 f13 : Addr} {od0 an0 od1 an1 od2 an2 od3 an3 od4 an4 od5 an5 od6 an6 od7 an7 od8 an8 od9 an9 od10 an10 od11 an11 od12 an12 od13 an13 : Option Addr} {sl0 sl1 sl2 sl3 sl4 sl5 sl6 sl7 sl8 sl9 sl10 sl11 sl12 sl13 : Array (Option Value)} {oc0 kV0 dc0 pm0 cd0 ct0 oc1 kV1 dc1 pm1 cd1 ct1 oc2 kV2 dc2 pm2 cd2 ct2 oc3 kV3 dc3 pm3 cd3 ct3 oc4 kV4 dc4 pm4 cd4 ct4 oc5 kV5 dc5 pm5 cd5 ct5 oc6 kV6 dc6 pm6 cd6 ct6 oc7 kV7 dc7 pm7 cd7 ct7 oc8 kV8 dc8 pm8 cd8 ct8 oc9 kV9 dc9 pm9 cd9 ct9 oc10 kV10 dc10 pm10 cd10 ct10 oc11 kV11 dc11 pm11 cd11 ct11 oc12 kV12 dc12 pm12 cd12 ct12 oc13 kV13 dc13 pm13 cd13 ct13 : Value} {t0 : Tok} {t1 : Tok} {q2 : Addr} {qd2 : Option Addr} {qn2 : Nat} {qs2 : Array (Option Value)} {t3 : Tok} {t4 : Tok} {q5 : Addr} {qd5 : Option Addr} {qn5 : Nat} {qs5 : Array (Option Value)} {t6 : Tok} {t7 : Tok} {q8 : Addr} {qd8 : Option Addr} {qn8 : Nat} {qs8 : Array (Option Value)} {t9 : Tok} {t10 : Tok} {q11 : Addr} {qd11 : Option Addr} {qn11 : Nat} {qs11 : Array (Option Value)} {t12 : Tok} {t13 : Tok} {q14 : Addr} {qd14 : Option Addr} {qn14 : Nat} {qs14 : Array (Option Value)} {t15 : Tok} {t16 : Tok} {q17 : Addr} {qd17 : Option Addr} {qn17 : Nat} {qs17 : Array (Option Value)} {t18 : Tok} {t19 : Tok} {q20 : Addr} {qd20 : Option Addr} {qn20 : Nat} {qs20 : Array (Option Value)} {t21 : Tok} {t22 : Tok} {q23 : Addr} {qd23 : Option Addr} {qn23 : Nat} {qs23 : Array (Option Value)} {t24 : Tok} {t25 : Tok} {q26 : Addr} {qd26 : Option Addr} {qn26 : Nat} {qs26 : Array (Option Value)} {t27 : Tok} {t28 : Tok} {q29 : Addr} {qd29 : Option Addr} {qn29 : Nat} {qs29 : Array (Option Value)} {t30 : Tok} {t31 : Tok} {q32 : Addr} {qd32 : Option Addr} {qn32 : Nat} {qs32 : Array (Option Value)} {t33 : Tok} {t34 : Tok} {q35 : Addr} {qd35 : Option Addr} {qn35 : Nat} {qs35 : Array (Option Value)} {t36 : Tok} {t37 : Tok} {q38 : Addr} {qd38 : Option Addr} {qn38 : Nat} {qs38 : Array (Option Value)} {q39 : Addr} {qd39 : Option Addr} {qn39 : Nat} {qs39 : Array (Option Value)} (X : K.In h) (G : h.Ns mainGlobals mg) (hfa : mg "law" = some (.ref fa))
    (a0 : PySem.W.nsIn K mainGlobals "_law_cell" = some (some (.ref f0)))
    (l0 : K.lookup f0 = some ⟨oc0, od0, .func (PySem.W.fnOf "_law_cell" "_law_cell" (defArgs st_law_cell) (defBody st_law_cell) (defScope st_law_cell) .none kV0 dc0 pm0 an0 cd0 ct0), sl0⟩)
    (c0 : PySem.W.codeIn K cd0 "_law_cell" = true)
    (k0 : PySem.W.keepIn K (.ref f0) = true)
    (a1 : PySem.W.nsIn K mainGlobals "_law_digits" = some (some (.ref f1)))
    (l1 : K.lookup f1 = some ⟨oc1, od1, .func (PySem.W.fnOf "_law_digits" "_law_digits" (defArgs st_law_digits) (defBody st_law_digits) (defScope st_law_digits) .none kV1 dc1 pm1 an1 cd1 ct1), sl1⟩)
    (c1 : PySem.W.codeIn K cd1 "_law_digits" = true)
    (k1 : PySem.W.keepIn K (.ref f1) = true)
    (a2 : PySem.W.nsIn K mainGlobals "_law_draw" = some (some (.ref f2)))
    (l2 : K.lookup f2 = some ⟨oc2, od2, .func (PySem.W.fnOf "_law_draw" "_law_draw" (defArgs st_law_draw) (defBody st_law_draw) (defScope st_law_draw) .none kV2 dc2 pm2 an2 cd2 ct2), sl2⟩)
    (c2 : PySem.W.codeIn K cd2 "_law_draw" = true)
    (k2 : PySem.W.keepIn K (.ref f2) = true)
    (a3 : PySem.W.nsIn K mainGlobals "_law_pick" = some (some (.ref f3)))
    (l3 : K.lookup f3 = some ⟨oc3, od3, .func (PySem.W.fnOf "_law_pick" "_law_pick" (defArgs st_law_pick) (defBody st_law_pick) (defScope st_law_pick) .none kV3 dc3 pm3 an3 cd3 ct3), sl3⟩)
    (c3 : PySem.W.codeIn K cd3 "_law_pick" = true)
    (k3 : PySem.W.keepIn K (.ref f3) = true)
    (a4 : PySem.W.nsIn K mainGlobals "_law_same" = some (some (.ref f4)))
    (l4 : K.lookup f4 = some ⟨oc4, od4, .func (PySem.W.fnOf "_law_same" "_law_same" (defArgs st_law_same) (defBody st_law_same) (defScope st_law_same) .none kV4 dc4 pm4 an4 cd4 ct4), sl4⟩)
    (c4 : PySem.W.codeIn K cd4 "_law_same" = true)
    (k4 : PySem.W.keepIn K (.ref f4) = true)
    (a5 : PySem.W.nsIn K mainGlobals "roman" = some (some (.ref f5)))
    (l5 : K.lookup f5 = some ⟨oc5, od5, .func (PySem.W.fnOf "roman" "roman" (defArgs st_roman) (defBody st_roman) (defScope st_roman) .none kV5 dc5 pm5 an5 cd5 ct5), sl5⟩)
    (c5 : PySem.W.codeIn K cd5 "roman" = true)
    (k5 : PySem.W.keepIn K (.ref f5) = true)
    (a6 : PySem.W.nsIn K mainGlobals "roman_number" = some (some (.ref f6)))
    (l6 : K.lookup f6 = some ⟨oc6, od6, .func (PySem.W.fnOf "roman_number" "roman_number" (defArgs st_roman_number) (defBody st_roman_number) (defScope st_roman_number) .none kV6 dc6 pm6 an6 cd6 ct6), sl6⟩)
    (c6 : PySem.W.codeIn K cd6 "roman_number" = true)
    (k6 : PySem.W.keepIn K (.ref f6) = true)
    (a7 : PySem.W.nsIn K mainGlobals "letters_number" = some (some (.ref f7)))
    (l7 : K.lookup f7 = some ⟨oc7, od7, .func (PySem.W.fnOf "letters_number" "letters_number" (defArgs st_letters_number) (defBody st_letters_number) (defScope st_letters_number) .none kV7 dc7 pm7 an7 cd7 ct7), sl7⟩)
    (c7 : PySem.W.codeIn K cd7 "letters_number" = true)
    (k7 : PySem.W.keepIn K (.ref f7) = true)
    (a8 : PySem.W.nsIn K mainGlobals "number_of_letters" = some (some (.ref f8)))
    (l8 : K.lookup f8 = some ⟨oc8, od8, .func (PySem.W.fnOf "number_of_letters" "number_of_letters" (defArgs st_number_of_letters) (defBody st_number_of_letters) (defScope st_number_of_letters) .none kV8 dc8 pm8 an8 cd8 ct8), sl8⟩)
    (c8 : PySem.W.codeIn K cd8 "number_of_letters" = true)
    (k8 : PySem.W.keepIn K (.ref f8) = true)
    (a9 : PySem.W.nsIn K mainGlobals "padded" = some (some (.ref f9)))
    (l9 : K.lookup f9 = some ⟨oc9, od9, .func (PySem.W.fnOf "padded" "padded" (defArgs st_padded) (defBody st_padded) (defScope st_padded) .none kV9 dc9 pm9 an9 cd9 ct9), sl9⟩)
    (c9 : PySem.W.codeIn K cd9 "padded" = true)
    (k9 : PySem.W.keepIn K (.ref f9) = true)
    (a10 : PySem.W.nsIn K mainGlobals "_law_roman" = some (some (.ref f10)))
    (l10 : K.lookup f10 = some ⟨oc10, od10, .func (PySem.W.fnOf "_law_roman" "_law_roman" (defArgs st_law_roman) (defBody st_law_roman) (defScope st_law_roman) .none kV10 dc10 pm10 an10 cd10 ct10), sl10⟩)
    (c10 : PySem.W.codeIn K cd10 "_law_roman" = true)
    (k10 : PySem.W.keepIn K (.ref f10) = true)
    (a11 : PySem.W.nsIn K mainGlobals "_law_read" = some (some (.ref f11)))
    (l11 : K.lookup f11 = some ⟨oc11, od11, .func (PySem.W.fnOf "_law_read" "_law_read" (defArgs st_law_read) (defBody st_law_read) (defScope st_law_read) .none kV11 dc11 pm11 an11 cd11 ct11), sl11⟩)
    (c11 : PySem.W.codeIn K cd11 "_law_read" = true)
    (k11 : PySem.W.keepIn K (.ref f11) = true)
    (a12 : PySem.W.nsIn K mainGlobals "_law_lettered" = some (some (.ref f12)))
    (l12 : K.lookup f12 = some ⟨oc12, od12, .func (PySem.W.fnOf "_law_lettered" "_law_lettered" (defArgs st_law_lettered) (defBody st_law_lettered) (defScope st_law_lettered) .none kV12 dc12 pm12 an12 cd12 ct12), sl12⟩)
    (c12 : PySem.W.codeIn K cd12 "_law_lettered" = true)
    (k12 : PySem.W.keepIn K (.ref f12) = true)
    (a13 : PySem.W.nsIn K mainGlobals "law" = some (some (.ref f13)))
    (l13 : K.lookup f13 = some ⟨oc13, od13, .func (PySem.W.fnOf "law" "law" (defArgs st_law) (defBody st_law) (defScope st_law) .none kV13 dc13 pm13 an13 cd13 ct13), sl13⟩)
    (c13 : PySem.W.codeIn K cd13 "law" = true)
    (k13 : PySem.W.keepIn K (.ref f13) = true)
    (z_len : PySem.W.nsIn K mainGlobals "len" = some none)
    (z_range : PySem.W.nsIn K mainGlobals "range" = some none)
    (z_int : PySem.W.nsIn K mainGlobals "int" = some none)
    (z_str : PySem.W.nsIn K mainGlobals "str" = some none)
    (z_list : PySem.W.nsIn K mainGlobals "list" = some none)
    (z_tuple : PySem.W.nsIn K mainGlobals "tuple" = some none)
    (z_dict : PySem.W.nsIn K mainGlobals "dict" = some none)
    (z_sorted : PySem.W.nsIn K mainGlobals "sorted" = some none)
    (z_sum : PySem.W.nsIn K mainGlobals "sum" = some none)
    (z_min : PySem.W.nsIn K mainGlobals "min" = some none)
    (z_max : PySem.W.nsIn K mainGlobals "max" = some none)
    (z_all : PySem.W.nsIn K mainGlobals "all" = some none)
    (z_any : PySem.W.nsIn K mainGlobals "any" = some none)
    (z_enumerate : PySem.W.nsIn K mainGlobals "enumerate" = some none)
    (z_zip : PySem.W.nsIn K mainGlobals "zip" = some none)
    (z_reversed : PySem.W.nsIn K mainGlobals "reversed" = some none)
    (z_isinstance : PySem.W.nsIn K mainGlobals "isinstance" = some none)
    (z_repr : PySem.W.nsIn K mainGlobals "repr" = some none)
    (z_bool : PySem.W.nsIn K mainGlobals "bool" = some none)
    (x40 : PySem.W.nsIn K mainGlobals "ROMANS" = some (some (.ref q39)))
    (y39 : K.lookup q39 = some ⟨.type "tuple", qd39, .seq #[.ref q2, .ref q5, .ref q8, .ref q11, .ref q14, .ref q17, .ref q20, .ref q23, .ref q26, .ref q29, .ref q32, .ref q35, .ref q38] qn39, qs39⟩)
    (y38 : K.lookup q38 = some ⟨.type "tuple", qd38, .seq #[.int 1 t36, .str "i" t37] qn38, qs38⟩)
    (y35 : K.lookup q35 = some ⟨.type "tuple", qd35, .seq #[.int 4 t33, .str "iv" t34] qn35, qs35⟩)
    (y32 : K.lookup q32 = some ⟨.type "tuple", qd32, .seq #[.int 5 t30, .str "v" t31] qn32, qs32⟩)
    (y29 : K.lookup q29 = some ⟨.type "tuple", qd29, .seq #[.int 9 t27, .str "ix" t28] qn29, qs29⟩)
    (y26 : K.lookup q26 = some ⟨.type "tuple", qd26, .seq #[.int 10 t24, .str "x" t25] qn26, qs26⟩)
    (y23 : K.lookup q23 = some ⟨.type "tuple", qd23, .seq #[.int 40 t21, .str "xl" t22] qn23, qs23⟩)
    (y20 : K.lookup q20 = some ⟨.type "tuple", qd20, .seq #[.int 50 t18, .str "l" t19] qn20, qs20⟩)
    (y17 : K.lookup q17 = some ⟨.type "tuple", qd17, .seq #[.int 90 t15, .str "xc" t16] qn17, qs17⟩)
    (y14 : K.lookup q14 = some ⟨.type "tuple", qd14, .seq #[.int 100 t12, .str "c" t13] qn14, qs14⟩)
    (y11 : K.lookup q11 = some ⟨.type "tuple", qd11, .seq #[.int 400 t9, .str "cd" t10] qn11, qs11⟩)
    (y8 : K.lookup q8 = some ⟨.type "tuple", qd8, .seq #[.int 500 t6, .str "d" t7] qn8, qs8⟩)
    (y5 : K.lookup q5 = some ⟨.type "tuple", qd5, .seq #[.int 900 t3, .str "cm" t4] qn5, qs5⟩)
    (y2 : K.lookup q2 = some ⟨.type "tuple", qd2, .seq #[.int 1000 t0, .str "m" t1] qn2, qs2⟩) :
    ∃ fd : FuncData, (∀ (s : Shared) (v : Value), BindsTo s fd ⟨[v], []⟩ [("script", v)]) ∧ ∀ base : Heap, K.In base → base.Ns mainGlobals mg → FnOk l.prog w K mg base CX0 11 fa fd ["script"] (spLaw K) := by
  have e := hfa.symm.trans (PySem.W.mg_of X G a13)
  cases e
  have F0 := fun_mk (st := st_law_cell) l0 c0 k0
  have B0 := F0.binds (ps := ["script", "k"]) fun _ _ _ _ _ _ us hl => match us, hl with | [_, _], _ => rfl
  have F1 := fun_mk (st := st_law_digits) l1 c1 k1
  have B1 := F1.binds (ps := ["script", "first", "last"]) fun _ _ _ _ _ _ us hl => match us, hl with | [_, _, _], _ => rfl
  have F2 := fun_mk (st := st_law_draw) l2 c2 k2
  have B2 := F2.binds (ps := ["box", "many"]) fun _ _ _ _ _ _ us hl => match us, hl with | [_, _], _ => rfl
  have F3 := fun_mk (st := st_law_pick) l3 c3 k3
  have B3 := F3.binds (ps := ["box", "row"]) fun _ _ _ _ _ _ us hl => match us, hl with | [_, _], _ => rfl
  have F4 := fun_mk (st := st_law_same) l4 c4 k4
  have B4 := F4.binds (ps := ["told", "due"]) fun _ _ _ _ _ _ us hl => match us, hl with | [_, _], _ => rfl
  have F5 := fun_mk (st := st_roman) l5 c5 k5
  have B5 := F5.binds (ps := ["number"]) fun _ _ _ _ _ _ us hl => match us, hl with | [_], _ => rfl
  have F6 := fun_mk (st := st_roman_number) l6 c6 k6
  have B6 := F6.binds (ps := ["text"]) fun _ _ _ _ _ _ us hl => match us, hl with | [_], _ => rfl
  have F7 := fun_mk (st := st_letters_number) l7 c7 k7
  have B7 := F7.binds (ps := ["number"]) fun _ _ _ _ _ _ us hl => match us, hl with | [_], _ => rfl
  have F8 := fun_mk (st := st_number_of_letters) l8 c8 k8
  have B8 := F8.binds (ps := ["text"]) fun _ _ _ _ _ _ us hl => match us, hl with | [_], _ => rfl
  have F9 := fun_mk (st := st_padded) l9 c9 k9
  have B9 := F9.binds (ps := ["number", "size"]) fun _ _ _ _ _ _ us hl => match us, hl with | [_, _], _ => rfl
  have F10 := fun_mk (st := st_law_roman) l10 c10 k10
  have B10 := F10.binds (ps := ["number"]) fun _ _ _ _ _ _ us hl => match us, hl with | [_], _ => rfl
  have F11 := fun_mk (st := st_law_read) l11 c11 k11
  have B11 := F11.binds (ps := ["text"]) fun _ _ _ _ _ _ us hl => match us, hl with | [_], _ => rfl
  have F12 := fun_mk (st := st_law_lettered) l12 c12 k12
  have B12 := F12.binds (ps := ["number"]) fun _ _ _ _ _ _ us hl => match us, hl with | [_], _ => rfl
  have F13 := fun_mk (st := st_law) l13 c13 k13
  have G_ROMANS : ∀ base, GbAt (Md.mk l.prog w K mg base) "ROMANS" ((eKt (ek2 D.int eS)) g_ROMANS) := fun base => ⟨V.ref q39, .ref q39, PySem.W.mg_of X G x40, rfl, fun F => rep_k (vs := [V.ref q2, V.ref q5, V.ref q8, V.ref q11, V.ref q14, V.ref q17, V.ref q20, V.ref q23, V.ref q26, V.ref q29, V.ref q32, V.ref q35, V.ref q38]) y39 (.cons (rfl) (.cons (rfl) (.cons (rfl) (.cons (rfl) (.cons (rfl) (.cons (rfl) (.cons (rfl) (.cons (rfl) (.cons (rfl) (.cons (rfl) (.cons (rfl) (.cons (rfl) (.cons (rfl) (.nil)))))))))))))) (.cons (rep_k (vs := [V.int 1000, V.str "m"]) y2 (.cons (⟨_, rfl⟩) (.cons (⟨_, rfl⟩) (.nil))) (.cons (.int _) (.cons (.str _ (by decide)) (.nil))) (by decide)) (.cons (rep_k (vs := [V.int 900, V.str "cm"]) y5 (.cons (⟨_, rfl⟩) (.cons (⟨_, rfl⟩) (.nil))) (.cons (.int _) (.cons (.str _ (by decide)) (.nil))) (by decide)) (.cons (rep_k (vs := [V.int 500, V.str "d"]) y8 (.cons (⟨_, rfl⟩) (.cons (⟨_, rfl⟩) (.nil))) (.cons (.int _) (.cons (.str _ (by decide)) (.nil))) (by decide)) (.cons (rep_k (vs := [V.int 400, V.str "cd"]) y11 (.cons (⟨_, rfl⟩) (.cons (⟨_, rfl⟩) (.nil))) (.cons (.int _) (.cons (.str _ (by decide)) (.nil))) (by decide)) (.cons (rep_k (vs := [V.int 100, V.str "c"]) y14 (.cons (⟨_, rfl⟩) (.cons (⟨_, rfl⟩) (.nil))) (.cons (.int _) (.cons (.str _ (by decide)) (.nil))) (by decide)) (.cons (rep_k (vs := [V.int 90, V.str "xc"]) y17 (.cons (⟨_, rfl⟩) (.cons (⟨_, rfl⟩) (.nil))) (.cons (.int _) (.cons (.str _ (by decide)) (.nil))) (by decide)) (.cons (rep_k (vs := [V.int 50, V.str "l"]) y20 (.cons (⟨_, rfl⟩) (.cons (⟨_, rfl⟩) (.nil))) (.cons (.int _) (.cons (.str _ (by decide)) (.nil))) (by decide)) (.cons (rep_k (vs := [V.int 40, V.str "xl"]) y23 (.cons (⟨_, rfl⟩) (.cons (⟨_, rfl⟩) (.nil))) (.cons (.int _) (.cons (.str _ (by decide)) (.nil))) (by decide)) (.cons (rep_k (vs := [V.int 10, V.str "x"]) y26 (.cons (⟨_, rfl⟩) (.cons (⟨_, rfl⟩) (.nil))) (.cons (.int _) (.cons (.str _ (by decide)) (.nil))) (by decide)) (.cons (rep_k (vs := [V.int 9, V.str "ix"]) y29 (.cons (⟨_, rfl⟩) (.cons (⟨_, rfl⟩) (.nil))) (.cons (.int _) (.cons (.str _ (by decide)) (.nil))) (by decide)) (.cons (rep_k (vs := [V.int 5, V.str "v"]) y32 (.cons (⟨_, rfl⟩) (.cons (⟨_, rfl⟩) (.nil))) (.cons (.int _) (.cons (.str _ (by decide)) (.nil))) (by decide)) (.cons (rep_k (vs := [V.int 4, V.str "iv"]) y35 (.cons (⟨_, rfl⟩) (.cons (⟨_, rfl⟩) (.nil))) (.cons (.int _) (.cons (.str _ (by decide)) (.nil))) (by decide)) (.cons (rep_k (vs := [V.int 1, V.str "i"]) y38 (.cons (⟨_, rfl⟩) (.cons (⟨_, rfl⟩) (.nil))) (.cons (.int _) (.cons (.str _ (by decide)) (.nil))) (by decide)) (.nil)))))))))))))) (by decide)⟩
  refine ⟨PySem.W.fnOf "law" "law" (defArgs st_law) (defBody st_law) (defScope st_law) .none kV13 dc13 pm13 an13 cd13 ct13, fun s v => .of_eq rfl, fun base _ _ => ?_⟩
  have bl : Bl (Md.mk l.prog w K mg base) := ⟨PySem.W.mg_none_of X G z_len, PySem.W.mg_none_of X G z_range, PySem.W.mg_none_of X G z_int, PySem.W.mg_none_of X G z_str, PySem.W.mg_none_of X G z_list, PySem.W.mg_none_of X G z_tuple, PySem.W.mg_none_of X G z_dict, PySem.W.mg_none_of X G z_sorted, PySem.W.mg_none_of X G z_sum, PySem.W.mg_none_of X G z_min, PySem.W.mg_none_of X G z_max, PySem.W.mg_none_of X G z_all, PySem.W.mg_none_of X G z_any, PySem.W.mg_none_of X G z_enumerate, PySem.W.mg_none_of X G z_zip, PySem.W.mg_none_of X G z_reversed, PySem.W.mg_none_of X G z_isinstance, PySem.W.mg_none_of X G z_repr, PySem.W.mg_none_of X G z_bool⟩
  have F_law_cell := (FnAt.mk2 (M := Md.mk l.prog w K mg base) (k := 0) (ea := D.scr) (eb := D.int) (er := D.int) F0 sc_law_cell rfl (PySem.W.mg_of X G a0) B0 (fun X c G _ a b => s_law_cell c bl  a b) : FnAt (Md.mk l.prog w K mg base) 1 "_law_cell" 2 (d2 D.scr D.int D.int w_law_cell))
  have F_law_digits := (FnAt.mk3 (M := Md.mk l.prog w K mg base) (k := 1) (ea := D.scr) (eb := D.int) (ec := D.int) (er := (eL D.int)) F1 sc_law_digits rfl (PySem.W.mg_of X G a1) B1 (fun X c G _ a b c1 => s_law_digits c bl F_law_cell a b c1) : FnAt (Md.mk l.prog w K mg base) 2 "_law_digits" 3 (d3 D.scr D.int D.int (eL D.int) w_law_digits))
  have F_law_draw := draw_fn (M := Md.mk l.prog w K mg base) (k := 0) F2 sc_law_draw (PySem.W.mg_of X G a2) B2 fun X c G a => s_law_draw c bl a
  have F_law_pick := pick_fn (M := Md.mk l.prog w K mg base) (k := 1) F3 sc_law_pick (PySem.W.mg_of X G a3) B3 (fun X c G a => s_law_pickD c bl F_law_draw a) (fun X c G a => s_law_pickS c bl F_law_draw a)
  have F_law_same := same_fn (M := Md.mk l.prog w K mg base) F4 sc_law_same (PySem.W.mg_of X G a4) B4 (fun k w F X c G a b => s_law_same c bl F a b) 9
  have F_roman := (FnAt.mk1 (M := Md.mk l.prog w K mg base) (k := 0) (ea := D.int) (er := eS) F5 sc_roman rfl (PySem.W.mg_of X G a5) B5 (fun X c G _ a => s_roman c bl (G_ROMANS base) a) : FnAt (Md.mk l.prog w K mg base) 1 "roman" 1 (d1 D.int eS w_roman))
  have F_roman_number := (FnAt.mk1 (M := Md.mk l.prog w K mg base) (k := 1) (ea := eS) (er := (eO D.int)) F6 sc_roman_number rfl (PySem.W.mg_of X G a6) B6 (fun X c G _ a => s_roman_number c bl F_roman (G_ROMANS base) a) : FnAt (Md.mk l.prog w K mg base) 2 "roman_number" 1 (d1 eS (eO D.int) w_roman_number))
  have F_letters_number := (FnAt.mk1 (M := Md.mk l.prog w K mg base) (k := 0) (ea := D.int) (er := eS) F7 sc_letters_number rfl (PySem.W.mg_of X G a7) B7 (fun X c G _ a => s_letters_number c bl  a) : FnAt (Md.mk l.prog w K mg base) 1 "letters_number" 1 (d1 D.int eS w_letters_number))
  have F_number_of_letters := (FnAt.mk1 (M := Md.mk l.prog w K mg base) (k := 0) (ea := eS) (er := (eO D.int)) F8 sc_number_of_letters rfl (PySem.W.mg_of X G a8) B8 (fun X c G _ a => s_number_of_letters c bl  a) : FnAt (Md.mk l.prog w K mg base) 1 "number_of_letters" 1 (d1 eS (eO D.int) w_number_of_letters))
  have F_padded := (FnAt.mk2 (M := Md.mk l.prog w K mg base) (k := 0) (ea := D.int) (eb := D.int) (er := eS) F9 sc_padded rfl (PySem.W.mg_of X G a9) B9 (fun X c G _ a b => s_padded c bl  a b) : FnAt (Md.mk l.prog w K mg base) 1 "padded" 2 (d2 D.int D.int eS w_padded))
  have F_law_roman := (FnAt.mk1 (M := Md.mk l.prog w K mg base) (k := 0) (ea := D.int) (er := eS) F10 sc_law_roman rfl (PySem.W.mg_of X G a10) B10 (fun X c G _ a => s_law_roman c bl  a) : FnAt (Md.mk l.prog w K mg base) 1 "_law_roman" 1 (d1 D.int eS w_law_roman))
  have F_law_read := (FnAt.mk1 (M := Md.mk l.prog w K mg base) (k := 1) (ea := eS) (er := (eO D.int)) F11 sc_law_read rfl (PySem.W.mg_of X G a11) B11 (fun X c G _ a => s_law_read c bl F_law_roman a) : FnAt (Md.mk l.prog w K mg base) 2 "_law_read" 1 (d1 eS (eO D.int) w_law_read))
  have F_law_lettered := (FnAt.mk1 (M := Md.mk l.prog w K mg base) (k := 0) (ea := D.int) (er := eS) F12 sc_law_lettered rfl (PySem.W.mg_of X G a12) B12 (fun X c G _ a => s_law_lettered c bl  a) : FnAt (Md.mk l.prog w K mg base) 1 "_law_lettered" 1 (d1 D.int eS w_law_lettered))
  exact law_fn (M := Md.mk l.prog w K mg base) (k := 10) F13 sc_law (fun X c G hG a => s_law c bl F_law_digits F_law_draw F_law_lettered F_law_pick F_law_read F_law_roman F_law_same F_letters_number F_number_of_letters F_padded F_roman F_roman_number hG a) law_true
end K
open PySem PySem.W PyProof.Rows
set_option maxHeartbeats 0 in
theorem PySem.Challenge.cw_printlands_k70_whole_roman_figures_and_l_holds : PySem.Challenge.rw_printlands_k70_whole_roman_figures_and_l.Holds := by
  w_on; o_law; k_head; (case hw => w_witness2)
  k_fill
  refine L2.walk_of (l := PySem.Challenge.rw_printlands_k70_whole_roman_figures_and_l) (n := 63) (k := 11) (x := "script") (CX := fun _ => L2.CX0) (sp := fun w => Dt.spLaw _) rfl (by decide) rfl ⟨rfl, by decide, by decide⟩ (fun w h Y => PySem.W.kIn_of Y) ?F (fun _ _ a ns hl _ hS => ⟨a, ns, rfl, hS, hl, fun _ => rfl⟩) (fun _ _ _ _ _ h => h)
  case F =>
    intro w mg fa h KX G hmg
    refine' K.all_mk KX G hmg ?a0 ?l0 ?c0 ?k0 ?a1 ?l1 ?c1 ?k1 ?a2 ?l2 ?c2 ?k2 ?a3 ?l3 ?c3 ?k3 ?a4 ?l4 ?c4 ?k4 ?a5 ?l5 ?c5 ?k5 ?a6 ?l6 ?c6 ?k6 ?a7 ?l7 ?c7 ?k7 ?a8 ?l8 ?c8 ?k8 ?a9 ?l9 ?c9 ?k9 ?a10 ?l10 ?c10 ?k10 ?a11 ?l11 ?c11 ?k11 ?a12 ?l12 ?c12 ?k12 ?a13 ?l13 ?c13 ?k13 ?z_len ?z_range ?z_int ?z_str ?z_list ?z_tuple ?z_dict ?z_sorted ?z_sum ?z_min ?z_max ?z_all ?z_any ?z_enumerate ?z_zip ?z_reversed ?z_isinstance ?z_repr ?z_bool ?x40 ?y39 ?y38 ?y35 ?y32 ?y29 ?y26 ?y23 ?y20 ?y17 ?y14 ?y11 ?y8 ?y5 ?y2
    (case a0 => k_is); (case l0 => k_is); (case c0 => k_is); (case k0 => k_is); (case a1 => k_is); (case l1 => k_is); (case c1 => k_is); (case k1 => k_is); (case a2 => k_is); (case l2 => k_is); (case c2 => k_is); (case k2 => k_is); (case a3 => k_is); (case l3 => k_is); (case c3 => k_is); (case k3 => k_is); (case a4 => k_is); (case l4 => k_is); (case c4 => k_is); (case k4 => k_is); (case a5 => k_is); (case l5 => k_is); (case c5 => k_is); (case k5 => k_is); (case a6 => k_is); (case l6 => k_is); (case c6 => k_is); (case k6 => k_is); (case a7 => k_is); (case l7 => k_is); (case c7 => k_is); (case k7 => k_is); (case a8 => k_is); (case l8 => k_is); (case c8 => k_is); (case k8 => k_is); (case a9 => k_is); (case l9 => k_is); (case c9 => k_is); (case k9 => k_is); (case a10 => k_is); (case l10 => k_is); (case c10 => k_is); (case k10 => k_is); (case a11 => k_is); (case l11 => k_is); (case c11 => k_is); (case k11 => k_is); (case a12 => k_is); (case l12 => k_is); (case c12 => k_is); (case k12 => k_is); (case a13 => k_is); (case l13 => k_is); (case c13 => k_is); (case k13 => k_is); (case z_len => k_is); (case z_range => k_is); (case z_int => k_is); (case z_str => k_is); (case z_list => k_is); (case z_tuple => k_is); (case z_dict => k_is); (case z_sorted => k_is); (case z_sum => k_is); (case z_min => k_is); (case z_max => k_is); (case z_all => k_is); (case z_any => k_is); (case z_enumerate => k_is); (case z_zip => k_is); (case z_reversed => k_is); (case z_isinstance => k_is); (case z_repr => k_is); (case z_bool => k_is); (case x40 => k_is); (case y39 => k_is); (case y38 => k_is); (case y35 => k_is); (case y32 => k_is); (case y29 => k_is); (case y26 => k_is); (case y23 => k_is); (case y20 => k_is); (case y17 => k_is); (case y14 => k_is); (case y11 => k_is); (case y8 => k_is); (case y5 => k_is); (case y2 => k_is)
