import PyProof.Rows.All
import Wide.All
import OpenK.AllK
import Wide.FinOn
import HandS.Base
import HandS.Call
import HandS.List
import HandS.Comp
import HandS.Words
import HandS.Exc
import HandS.Text
import HandS.Style
import HandS.Flow
import HandS.Wide
import HandS.TupAny
import HandS.TupMul
import HandS.IsInst
import HandS.More
import HandS.ExcOwn
import HandS.WordsExc
import HandS.Walk
import HandS.Zip
import HandS.ExcInit
import HandS.ExcField
import HandS.ExcIs
import HandS.TryOnly
import HandS.ExcValue
import PyProof.SumAnyB
import HandS.Deep
import HandS.CallLocal
import HandS.ClsMeth
import HandS.HeadHook2
import HandS.Defaults
import HandS.EndBits
import HandS.HeadEnd
import HandS.Head2
import KE.KStateDown
import HandS.Codes
import PySem.Challenge.RW_levelcord_k87_whole_texts_read_again
set_option Elab.async false
set_option linter.all false
set_option maxRecDepth 100000
set_option maxHeartbeats 4000000
namespace Ev
open PySem PySem.Spec PyProof.Rows L2

/-- pure data -/
inductive D where
  | non | bl (b : Bool) | int (i : Int) | str (x : Str)
  | tup (xs : List D) | lst (xs : List D) | ro (xs : List D)
  | fn (x : Str)
  | emp
  | exc0 (c : Str) | exc1 (c n : Str) (x : D)

/-- what a slot holds: data; a list of its own; an instance of its own; out: lent for a while -/
inductive W where
  | val (d : D) | lst (xs : List D) | ins (c : Str) (fs : List (Str × D)) | out

inductive Own where
  | s (i : Nat) | t (k : Nat) | x
  deriving DecidableEq

/-- what names of the module stand for -/
structure Gm where
  K : PySem.W.Frag
  cls : Str → Option Addr
  fns : Str → Option Addr

abbrev Om := Addr → Option Own
abbrev Sg := List (Option W)
abbrev Tm := List (V × W × Option Nat)

def TupAt (K : PySem.W.Frag) (H : Hp) (ω : Om) (a : Addr) (vs : List V) : Prop :=
  (Rd H a (.tup vs) ∧ ω a = none) ∨ (∃ (o : Obj) (its : Array Value) (n : Nat), K.lookup a = some o ∧ o.cls = .type "tuple" ∧ o.data = .seq its n ∧ its.size ≤ sizeLine ∧ Vals vs its.toList)
def LstAt (K : PySem.W.Frag) (H : Hp) (ω : Om) (a : Addr) (vs : List V) : Prop :=
  (Rd H a (.lst vs) ∧ ω a = none) ∨ (∃ (o : Obj) (its : Array Value) (n : Nat), K.lookup a = some o ∧ o.cls = .type "list" ∧ o.dict = none ∧ o.data = .seq its n ∧ its.size ≤ sizeLine ∧ Vals vs its.toList)
/-- a caught exception: the class at C, its dict -/
def XO (a C : Addr) (d : Option Addr) : HO := .ext fun h => ∃ (oe : Obj) (vs : Array Value), h.get? a = some oe ∧ Zc (.ref C) d oe ∧ oe.data = .fields vs
theorem TupAt.sq {K : PySem.W.Frag} {H : Hp} {ω : Om} {a : Addr} {vs : List V} (h : TupAt K H ω a vs) : SqT K H a vs := h.imp (fun h => h.1) fun h => h
theorem LstAt.sq {K : PySem.W.Frag} {H : Hp} {ω : Om} {a : Addr} {vs : List V} (h : LstAt K H ω a vs) : SqL K H a vs := h.imp (fun h => h.1) fun h => h

mutual
def Dat (G : Gm) (ω : Om) (H : Hp) : D → V → Prop
  | .non, v => v = .non
  | .bl b, v => v = .bl b
  | .int i, v => v = .int i
  | .str x, v => v = .str x
  | .tup ds, v => ∃ a vs, v = .ref a ∧ TupAt G.K H ω a vs ∧ Dats G ω H ds vs
  | .lst ds, v => ∃ a vs, v = .ref a ∧ (H a = some (.lst vs) ∧ ω a = none) ∧ Dats G ω H ds vs
  | .ro ds, v => ∃ a vs, v = .ref a ∧ LstAt G.K H ω a vs ∧ Dats G ω H ds vs
  | .fn x, v => ∃ a, v = .ref a ∧ G.fns x = some a
  | .emp, v => ∃ a, v = .ref a ∧ H a = some (.dK []) ∧ ω a = none
  | .exc0 c, v => ∃ a C, v = .ref a ∧ G.cls c = some C ∧ H a = some (XO a C none) ∧ ω a = none
  | .exc1 c n x, v => ∃ a C dd u, v = .ref a ∧ G.cls c = some C ∧ (H a = some (XO a C (some dd)) ∧ ω a = none) ∧ (H dd = some (.xd [(n, u)]) ∧ ω dd = none) ∧ Dat G ω H x u
def Dats (G : Gm) (ω : Om) (H : Hp) : List D → List V → Prop
  | [], vs => vs = []
  | d :: ds, vs => ∃ v r, vs = v :: r ∧ Dat G ω H d v ∧ Dats G ω H ds r
end
/-- attributes by name -/
def FDat (G : Gm) (ω : Om) (H : Hp) : List (Str × D) → List (Str × V) → Prop
  | [], l => l = []
  | (f, d) :: fs, l => ∃ v r, l = (f, v) :: r ∧ Dat G ω H d v ∧ FDat G ω H fs r

def EntW (G : Gm) (ω : Om) (H : Hp) (o : Own) : W → V → Prop
  | .val d, v => Dat G ω H d v
  | .lst xs, v => ∃ a vs, v = .ref a ∧ H a = some (.lst vs) ∧ ω a = some o ∧ Dats G ω H xs vs
  | .ins c fs, v => ∃ a C dx fvs, v = .ref a ∧ H a = some (.ins C dx fvs) ∧ ω a = some o ∧ G.cls c = some C ∧ FDat G ω H fs fvs
  | .out, _ => True

/-- frozen things stay -/
def Ext (H : Hp) (ω : Om) (H' : Hp) (ω' : Om) : Prop := ∀ a o, H a = some o → ω a = none → H' a = some o ∧ ω' a = none
/-- all that is tracked stays -/
def Grow (H : Hp) (ω : Om) (H' : Hp) (ω' : Om) : Prop := ∀ a o, H a = some o → H' a = some o ∧ ω' a = ω a
theorem Grow.refl (H : Hp) (ω : Om) : Grow H ω H ω := fun _ _ h => ⟨h, rfl⟩
theorem Grow.trans {H : Hp} {ω : Om} {H1 : Hp} {ω1 : Om} {H2 : Hp} {ω2 : Om} (a : Grow H ω H1 ω1) (b : Grow H1 ω1 H2 ω2) : Grow H ω H2 ω2 := fun c o h =>
  ⟨(b c o (a c o h).1).1, ((b c o (a c o h).1).2).trans (a c o h).2⟩
theorem Grow.ext {H : Hp} {ω : Om} {H' : Hp} {ω' : Om} (g : Grow H ω H' ω') : Ext H ω H' ω' := fun a o h e => ⟨(g a o h).1, (g a o h).2.trans e⟩
def oset (ω : Om) (p : Addr) (x : Option Own) : Om := fun b => if b = p then x else ω b
theorem oset_same {ω : Om} {p : Addr} {x : Option Own} : oset ω p x p = x := if_pos rfl
theorem oset_ne {ω : Om} {p b : Addr} {x : Option Own} (h : b ≠ p) : oset ω p x b = ω b := if_neg h
theorem Grow.new {H : Hp} {ω : Om} {p : Addr} {o : HO} {x : Option Own} (h : H p = none) : Grow H ω (upd H p o) (oset ω p x) := fun a u e => by
  have ne : a ≠ p := ne_of_none e h
  rw [upd_ne ne, oset_ne ne]
  exact ⟨e, rfl⟩

section
variable {G : Gm} {ω ω' : Om} {H H' : Hp}
theorem Ext.rd (e : Ext H ω H' ω') {a : Addr} {u : HO} (h : Rd H a u ∧ ω a = none) : Rd H' a u ∧ ω' a = none := by
  obtain ⟨h, n⟩ := h
  rcases h with h | ⟨o, h⟩
  · exact ⟨.inl (e a _ h n).1, (e a _ h n).2⟩
  · exact ⟨.inr ⟨o, (e a _ h n).1⟩, (e a _ h n).2⟩
mutual
theorem Dat.mono (e : Ext H ω H' ω') : ∀ (d : D) (v : V), Dat G ω H d v → Dat G ω' H' d v
  | .non, _, h => h
  | .bl _, _, h => h
  | .int _, _, h => h
  | .str _, _, h => h
  | .tup ds, v, h => by
    unfold Dat at h ⊢
    obtain ⟨a, vs, rfl, ht, hd⟩ := h
    exact ⟨a, vs, rfl, ht.imp e.rd fun z => z, Dats.mono e ds vs hd⟩
  | .lst ds, v, h => by
    unfold Dat at h ⊢
    obtain ⟨a, vs, rfl, ht, hd⟩ := h
    exact ⟨a, vs, rfl, e a _ ht.1 ht.2, Dats.mono e ds vs hd⟩
  | .ro ds, v, h => by
    unfold Dat at h ⊢
    obtain ⟨a, vs, rfl, ht, hd⟩ := h
    exact ⟨a, vs, rfl, ht.imp e.rd fun z => z, Dats.mono e ds vs hd⟩
  | .fn _, _, h => by unfold Dat at h ⊢; exact h
  | .emp, _, h => by
    unfold Dat at h ⊢
    obtain ⟨a, rfl, h1, h2⟩ := h
    exact ⟨a, rfl, e a _ h1 h2⟩
  | .exc0 _, _, h => by
    unfold Dat at h ⊢
    obtain ⟨a, C, rfl, h1, h2, h3⟩ := h
    exact ⟨a, C, rfl, h1, e a _ h2 h3⟩
  | .exc1 _ _ x, _, h => by
    unfold Dat at h ⊢
    obtain ⟨a, C, dd, u, rfl, h1, h2, h3, h4⟩ := h
    exact ⟨a, C, dd, u, rfl, h1, e a _ h2.1 h2.2, e dd _ h3.1 h3.2, Dat.mono e x u h4⟩
theorem Dats.mono (e : Ext H ω H' ω') : ∀ (ds : List D) (vs : List V), Dats G ω H ds vs → Dats G ω' H' ds vs
  | [], _, h => by unfold Dats at h ⊢; exact h
  | d :: ds, vs, h => by
    unfold Dats at h ⊢
    obtain ⟨v, r, rfl, h1, h2⟩ := h
    exact ⟨v, r, rfl, Dat.mono e d v h1, Dats.mono e ds r h2⟩
end
theorem FDat.mono (e : Ext H ω H' ω') : ∀ (fs : List (Str × D)) (l : List (Str × V)), FDat G ω H fs l → FDat G ω' H' fs l
  | [], _, h => h
  | (f, d) :: fs, l, h => by
    obtain ⟨v, r, rfl, h1, h2⟩ := h
    exact ⟨v, r, rfl, Dat.mono e d v h1, FDat.mono e fs r h2⟩
theorem EntW.mono {o : Own} {w : W} {v : V} (e : Ext H ω H' ω') (k : ∀ a u, H a = some u → ω a = some o → H' a = some u ∧ ω' a = some o) (h : EntW G ω H o w v) : EntW G ω' H' o w v := by
  cases w with
  | val d => exact Dat.mono e d v h
  | lst xs =>
    obtain ⟨a, vs, rfl, h1, h2, h3⟩ := h
    exact ⟨a, vs, rfl, (k a _ h1 h2).1, (k a _ h1 h2).2, Dats.mono e _ _ h3⟩
  | ins c fs =>
    obtain ⟨a, C, dx, fvs, rfl, h1, h2, h3, h4⟩ := h
    exact ⟨a, C, dx, fvs, rfl, (k a _ h1 h2).1, (k a _ h1 h2).2, h3, FDat.mono e _ _ h4⟩
  | out => trivial
/-- owners renamed -/
theorem EntW.ren {o o' : Own} {w : W} {v : V} (e : Ext H ω H ω') (k : ∀ a, ω a = some o → ω' a = some o') (h : EntW G ω H o w v) : EntW G ω' H o' w v := by
  cases w with
  | val d => exact Dat.mono e d v h
  | lst xs =>
    obtain ⟨a, vs, rfl, h1, h2, h3⟩ := h
    exact ⟨a, vs, rfl, h1, k a h2, Dats.mono e _ _ h3⟩
  | ins c fs =>
    obtain ⟨a, C, dx, fvs, rfl, h1, h2, h3, h4⟩ := h
    exact ⟨a, C, dx, fvs, rfl, h1, k a h2, h3, FDat.mono e _ _ h4⟩
  | out => trivial
theorem Dats.length : ∀ {ds : List D} {vs : List V}, Dats G ω H ds vs → ds.length = vs.length
  | [], vs, h => by unfold Dats at h; subst h; rfl
  | d :: ds, vs, h => by
    unfold Dats at h
    obtain ⟨v, r, rfl, _, h2⟩ := h
    simp [Dats.length h2]
theorem Dats.get : ∀ {ds : List D} {vs : List V} {i : Nat} {d : D}, Dats G ω H ds vs → ds[i]? = some d → ∃ v, vs[i]? = some v ∧ Dat G ω H d v
  | [], _, _, _, _, e => by simp at e
  | d :: ds, vs, 0, d', h, e => by
    unfold Dats at h
    obtain ⟨v, r, rfl, h1, _⟩ := h
    simp at e
    subst e
    exact ⟨v, rfl, h1⟩
  | d :: ds, vs, i + 1, d', h, e => by
    unfold Dats at h
    obtain ⟨v, r, rfl, _, h2⟩ := h
    obtain ⟨u, hu, hd⟩ := Dats.get (i := i) h2 (by simpa using e)
    exact ⟨u, by simpa using hu, hd⟩
theorem Dats.append : ∀ {ds es : List D} {vs us : List V}, Dats G ω H ds vs → Dats G ω H es us → Dats G ω H (ds ++ es) (vs ++ us)
  | [], _, vs, _, h, h' => by unfold Dats at h; subst h; exact h'
  | d :: ds, es, vs, us, h, h' => by
    unfold Dats at h
    obtain ⟨v, r, rfl, h1, h2⟩ := h
    show Dats G ω H (d :: (ds ++ es)) _
    unfold Dats
    exact ⟨v, r ++ us, rfl, h1, Dats.append h2 h'⟩
theorem Dats.one {d : D} {v : V} (h : Dat G ω H d v) : Dats G ω H [d] [v] := by
  unfold Dats
  exact ⟨v, [], rfl, h, by unfold Dats; rfl⟩
theorem Dats.nil : Dats G ω H [] [] := by unfold Dats; rfl
theorem Dats.cons {d : D} {v : V} {ds : List D} {vs : List V} (h : Dat G ω H d v) (h' : Dats G ω H ds vs) : Dats G ω H (d :: ds) (v :: vs) := by
  unfold Dats
  exact ⟨v, vs, rfl, h, h'⟩
theorem Dats.take : ∀ {ds : List D} {vs : List V} (n : Nat), Dats G ω H ds vs → Dats G ω H (ds.take n) (vs.take n)
  | _, _, 0, _ => by simp; exact Dats.nil
  | [], vs, n + 1, h => by unfold Dats at h; subst h; exact Dats.nil
  | d :: ds, vs, n + 1, h => by
    unfold Dats at h
    obtain ⟨v, r, rfl, h1, h2⟩ := h
    exact Dats.cons h1 (Dats.take n h2)
theorem Dats.drop : ∀ {ds : List D} {vs : List V} (n : Nat), Dats G ω H ds vs → Dats G ω H (ds.drop n) (vs.drop n)
  | _, _, 0, h => h
  | [], vs, n + 1, h => by unfold Dats at h; subst h; exact Dats.nil
  | d :: ds, vs, n + 1, h => by
    unfold Dats at h
    obtain ⟨v, r, rfl, h1, h2⟩ := h
    exact Dats.drop n h2
theorem Dats.set : ∀ {ds : List D} {vs : List V} (i : Nat) {d : D} {v : V}, Dats G ω H ds vs → Dat G ω H d v → Dats G ω H (ds.set i d) (vs.set i v)
  | [], vs, i, d, v, h, _ => by unfold Dats at h; subst h; exact Dats.nil
  | e :: ds, vs, 0, d, v, h, hd => by
    unfold Dats at h
    obtain ⟨u, r, rfl, h1, h2⟩ := h
    exact Dats.cons hd h2
  | e :: ds, vs, i + 1, d, v, h, hd => by
    unfold Dats at h
    obtain ⟨u, r, rfl, h1, h2⟩ := h
    exact Dats.cons h1 (Dats.set i h2 hd)
theorem Dats.eraseIdx : ∀ {ds : List D} {vs : List V} (i : Nat), Dats G ω H ds vs → Dats G ω H (ds.eraseIdx i) (vs.eraseIdx i)
  | [], vs, i, h => by unfold Dats at h; subst h; simpa using Dats.nil
  | e :: ds, vs, 0, h => by
    unfold Dats at h
    obtain ⟨u, r, rfl, h1, h2⟩ := h
    exact h2
  | e :: ds, vs, i + 1, h => by
    unfold Dats at h
    obtain ⟨u, r, rfl, h1, h2⟩ := h
    exact Dats.cons h1 (Dats.eraseIdx i h2)
theorem Dats.reverse : ∀ {ds : List D} {vs : List V}, Dats G ω H ds vs → Dats G ω H ds.reverse vs.reverse
  | [], vs, h => by unfold Dats at h; subst h; exact Dats.nil
  | e :: ds, vs, h => by
    unfold Dats at h
    obtain ⟨u, r, rfl, h1, h2⟩ := h
    rw [List.reverse_cons, List.reverse_cons]
    exact Dats.append (Dats.reverse h2) (Dats.one h1)
end

/-- what stood at a def's entry: the heap, who owned what (x: the callers'), the slots that stay as they are -/
structure Amb where
  H0 : Hp
  w0 : Om
  pin : List (Nat × V)

structure Stt (G : Gm) (A : Amb) (σ : L2.St) (g : Sg) (τ : Tm) (H : Hp) (ω : Om) : Prop where
  len : g.length = σ.length
  slot : ∀ i w, g[i]? = some (some w) → ∃ v, σ[i]? = some (some v) ∧ EntW G ω H (.s i) w v
  temp : ∀ k v w t, τ[k]? = some (v, w, t) → EntW G ω H (.t k) w v ∧ ∀ i, t = some i → σ[i]? = some (some v) ∧ g[i]? = some (some .out)
  tie : ∀ (k k' : Nat) (v v' : V) (w w' : W) (i : Nat), τ[k]? = some (v, w, some i) → τ[k']? = some (v', w', some i) → k = k'
  pin : ∀ p ∈ A.pin, σ[p.1]? = some (some p.2)
  dom : ∀ a, A.w0 a ≠ none → A.H0 a ≠ none
  fr : ∀ a o, A.H0 a = some o → (A.w0 a = none ∨ A.w0 a = some .x) → H a = some o
  fx : ∀ a, A.w0 a = some .x → ω a = some .x
  fn : ∀ a, A.H0 a ≠ none → A.w0 a = none → ω a = none

section
variable {G : Gm} {A : Amb} {σ : L2.St} {g : Sg} {τ : Tm} {H H' : Hp} {ω ω' : Om}
theorem Stt.grow (S : Stt G A σ g τ H ω) (e : Grow H ω H' ω') : Stt G A σ g τ H' ω' where
  len := S.len
  slot := fun i w h => let ⟨v, h1, h2⟩ := S.slot i w h; ⟨v, h1, h2.mono e.ext fun a u p q => ⟨(e a u p).1, (e a u p).2.trans q⟩⟩
  temp := fun k v w t h => let ⟨h1, h2⟩ := S.temp k v w t h; ⟨h1.mono e.ext fun a u p q => ⟨(e a u p).1, (e a u p).2.trans q⟩, h2⟩
  tie := S.tie
  pin := S.pin
  dom := S.dom
  fr := fun a o h z => (e a o (S.fr a o h z)).1
  fx := fun a h => by
    have h1 : A.H0 a ≠ none := S.dom a (by rw [h]; exact fun z => by cases z)
    obtain ⟨o, ho⟩ := Option.ne_none_iff_exists'.mp h1
    have h2 := S.fr a o ho (.inr h)
    rw [(e a o h2).2]
    exact S.fx a h
  fn := fun a h1 h => by
    obtain ⟨o, ho⟩ := Option.ne_none_iff_exists'.mp h1
    have h2 := S.fr a o ho (.inl h)
    rw [(e a o h2).2]
    exact S.fn a h1 h
theorem lt_of_get {α : Type} {l : List α} {i : Nat} {x : α} (h : l[i]? = some x) : i < l.length := by
  by_cases hl : i < l.length
  · exact hl
  · rw [List.getElem?_eq_none (by omega)] at h; cases h
theorem get_snoc {α : Type} {l : List α} {x y : α} {k : Nat} (h : (l ++ [x])[k]? = some y) : l[k]? = some y ∨ (k = l.length ∧ y = x) := by
  by_cases hk : k < l.length
  · rw [List.getElem?_append_left hk] at h
    exact .inl h
  · rw [List.getElem?_append_right (by omega)] at h
    have h0 : k - l.length = 0 := by
      cases e : k - l.length with
      | zero => rfl
      | succ n => rw [e] at h; simp at h
    rw [h0] at h
    simp at h
    exact .inr ⟨by omega, h.symm⟩
theorem Stt.push {v : V} {w : W} (S : Stt G A σ g τ H ω) (h : EntW G ω H (.t τ.length) w v) : Stt G A σ g (τ ++ [(v, w, none)]) H ω where
  len := S.len
  slot := S.slot
  temp := fun k v' w' t' h' => by
    rcases get_snoc h' with h' | ⟨rfl, e⟩
    · exact S.temp k v' w' t' h'
    · cases e
      exact ⟨h, fun i z => by cases z⟩
  tie := fun k k' v1 v2 w1 w2 i h1 h2 => by
    rcases get_snoc h1 with h1 | ⟨_, e⟩
    · rcases get_snoc h2 with h2 | ⟨_, e⟩
      · exact S.tie k k' v1 v2 w1 w2 i h1 h2
      · cases e
    · cases e
  pin := S.pin
  dom := S.dom
  fr := S.fr
  fx := S.fx
  fn := S.fn
/-- fewer temps -/
theorem Stt.less {τ1 τ2 : Tm} (S : Stt G A σ g (τ1 ++ τ2) H ω) : Stt G A σ g τ1 H ω where
  len := S.len
  slot := S.slot
  temp := fun k v w t h => S.temp k v w t (by
    have hk : k < τ1.length := by
      by_cases hk : k < τ1.length
      · exact hk
      · rw [List.getElem?_eq_none (by omega)] at h; cases h
    rw [List.getElem?_append_left hk]; exact h)
  tie := fun k k' v1 v2 w1 w2 i h1 h2 => S.tie k k' v1 v2 w1 w2 i (by rw [List.getElem?_append_left (lt_of_get h1)]; exact h1) (by rw [List.getElem?_append_left (lt_of_get h2)]; exact h2)
  pin := S.pin
  dom := S.dom
  fr := S.fr
  fx := S.fx
  fn := S.fn
theorem Stt.last {v : V} {w : W} {t : Option Nat} (S : Stt G A σ g (τ ++ [(v, w, t)]) H ω) : EntW G ω H (.t τ.length) w v ∧ ∀ i, t = some i → σ[i]? = some (some v) ∧ g[i]? = some (some .out) :=
  S.temp τ.length v w t (by rw [List.getElem?_append_right (Nat.le_refl _)]; simp)
/-- rename an owner -/
def ren (ω : Om) (o o' : Own) : Om := fun a => if ω a = some o then some o' else ω a
theorem ren_none {o o' : Own} {a : Addr} (h : ω a = none) : ren ω o o' a = none := by
  unfold ren
  rw [h, if_neg (fun z => by cases z)]
theorem ren_at {o o' : Own} {a : Addr} (h : ω a = some o) : ren ω o o' a = some o' := by
  unfold ren
  rw [if_pos h]
theorem ren_ne {o o' u : Own} {a : Addr} (h : ω a = some u) (ne : u ≠ o) : ren ω o o' a = some u := by
  unfold ren
  rw [h, if_neg (fun z => ne (by injection z))]
theorem ren_ext {o o' : Own} : Ext H ω H (ren ω o o') := fun _ _ h n => ⟨h, ren_none n⟩
theorem set_get {α : Type} {l : List α} {i j : Nat} {x y : α} (h : (l.set i x)[j]? = some y) : (j = i ∧ y = x ∧ i < l.length) ∨ (j ≠ i ∧ l[j]? = some y) := by
  by_cases e : j = i
  · subst e
    by_cases hl : j < l.length
    · rw [List.getElem?_set_self hl] at h
      exact .inl ⟨rfl, (Option.some.inj h).symm, hl⟩
    · rw [List.getElem?_eq_none (by rw [List.length_set]; omega)] at h; cases h
  · rw [List.getElem?_set_ne (Ne.symm e)] at h
    exact .inr ⟨e, h⟩
/-- a slot is lent: what it holds is a temp, tied to it -/
theorem Stt.take {i : Nat} {w : W} (S : Stt G A σ g τ H ω) (h : g[i]? = some (some w)) (hwo : w ≠ .out) :
    ∃ v ω', σ[i]? = some (some v) ∧ Stt G A σ (g.set i (some .out)) (τ ++ [(v, w, some i)]) H ω' ∧ Ext H ω H ω' := by
  obtain ⟨v, hv, hw⟩ := S.slot i w h
  have hi := lt_of_get h
  have hne : w ≠ .out → ∀ (k : Nat) (v' : V) (w' : W), τ[k]? ≠ some (v', w', some i) := fun hw k v' w' hk => by
    have := ((S.temp k v' w' _ hk).2 i rfl).2
    rw [h] at this
    injection this with this
    injection this with this
    exact hw this
  refine ⟨v, ren ω (.s i) (.t τ.length), hv, ⟨by rw [List.length_set]; exact S.len, fun j u hj => ?_, fun k v' w' t' hk => ?_, fun k k' v1 v2 w1 w2 j h1 h2 => ?_, S.pin, S.dom, S.fr, fun a ha => ?_, fun a h1 h2 => ren_none (S.fn a h1 h2)⟩, ren_ext⟩
  · rcases set_get hj with ⟨rfl, e, _⟩ | ⟨ne, hj⟩
    · cases e
      exact ⟨v, hv, trivial⟩
    · obtain ⟨v', h1, h2⟩ := S.slot j u hj
      exact ⟨v', h1, h2.ren ren_ext fun a q => ren_ne q fun z => ne (by injection z)⟩
  · rcases get_snoc hk with hk | ⟨rfl, e⟩
    · obtain ⟨h1, h2⟩ := S.temp k v' w' t' hk
      refine ⟨h1.ren ren_ext fun a q => ren_ne q (nofun), fun j e => ?_⟩
      obtain ⟨h3, h4⟩ := h2 j e
      refine ⟨h3, ?_⟩
      by_cases ej : j = i
      · rw [ej, List.getElem?_set_self hi]
      · rw [List.getElem?_set_ne (Ne.symm ej)]; exact h4
    · cases e
      refine ⟨hw.ren ren_ext fun a q => ren_at q, fun j e => ?_⟩
      cases e
      exact ⟨hv, List.getElem?_set_self hi⟩
  · rcases get_snoc h1 with h1 | ⟨rfl, e1⟩
    · rcases get_snoc h2 with h2 | ⟨rfl, e2⟩
      · exact S.tie k k' v1 v2 w1 w2 j h1 h2
      · cases e2
        exact absurd h1 (hne hwo k v1 w1)
    · cases e1
      rcases get_snoc h2 with h2 | ⟨rfl, e2⟩
      · exact absurd h2 (hne hwo k' v2 w2)
      · rfl
  · exact ren_ne (S.fx a ha) fun z => by cases z
/-- the last temp goes back to its slot -/
theorem Stt.put {i : Nat} {v : V} {w : W} (S : Stt G A σ g (τ ++ [(v, w, some i)]) H ω) :
    ∃ ω', Stt G A σ (g.set i (some w)) τ H ω' ∧ Ext H ω H ω' := by
  have hn : ∀ (k : Nat) (v' : V) (w' : W), τ[k]? ≠ some (v', w', some i) := fun k v' w' hk => by
    have h1 := lt_of_get hk
    have := S.tie k τ.length v' v w' w i (by rw [List.getElem?_append_left h1]; exact hk) (by rw [List.getElem?_append_right (Nat.le_refl _)]; simp)
    omega
  obtain ⟨hw, ht⟩ := S.last
  obtain ⟨hv, ho⟩ := ht i rfl
  have hi := lt_of_get ho
  refine ⟨ren ω (.t τ.length) (.s i), ⟨by rw [List.length_set]; exact S.len, fun j u hj => ?_, fun k v' w' t' hk => ?_, S.less.tie, S.pin, S.dom, S.fr, fun a ha => ?_, fun a h1 h2 => ren_none (S.fn a h1 h2)⟩, ren_ext⟩
  · rcases set_get hj with ⟨rfl, e, _⟩ | ⟨ne, hj⟩
    · cases e
      exact ⟨v, hv, hw.ren ren_ext fun a q => ren_at q⟩
    · obtain ⟨v', h1, h2⟩ := S.slot j u hj
      exact ⟨v', h1, h2.ren ren_ext fun a q => ren_ne q fun z => by cases z⟩
  · have hkl := lt_of_get hk
    obtain ⟨h1, h2⟩ := S.temp k v' w' t' (by rw [List.getElem?_append_left hkl]; exact hk)
    refine ⟨h1.ren ren_ext fun a q => ren_ne q fun z => ?_, fun j e => ?_⟩
    · injection z with z
      omega
    · obtain ⟨h3, h4⟩ := h2 j e
      refine ⟨h3, ?_⟩
      by_cases ej : j = i
      · subst ej
        subst e
        exact absurd hk (hn k v' w')
      · rw [List.getElem?_set_ne (Ne.symm ej)]; exact h4
  · exact ren_ne (S.fx a ha) fun z => by cases z
/-- the last temp's object is changed, or frozen -/
theorem Stt.last_upd {v : V} {w w' : W} {t : Option Nat} (S : Stt G A σ g (τ ++ [(v, w, t)]) H ω) (e : Ext H ω H' ω') (k : ∀ a u o, H a = some u → ω a = some o → o ≠ .t τ.length → H' a = some u ∧ ω' a = some o)
    (h : EntW G ω' H' (.t τ.length) w' v) : Stt G A σ g (τ ++ [(v, w', t)]) H' ω' where
  len := S.len
  slot := fun j u hj => let ⟨v', h1, h2⟩ := S.slot j u hj; ⟨v', h1, h2.mono e fun a p q r => k a p _ q r fun z => by cases z⟩
  temp := fun j v' u t' hj => by
    rcases get_snoc hj with hj | ⟨rfl, e'⟩
    · obtain ⟨h1, h2⟩ := S.temp j v' u t' (by rw [List.getElem?_append_left (lt_of_get hj)]; exact hj)
      exact ⟨h1.mono e fun a p q r => k a p _ q r fun z => by have := lt_of_get hj; injection z with z; omega, h2⟩
    · cases e'
      exact ⟨h, S.last.2⟩
  tie := fun k k' v1 v2 w1 w2 i h1 h2 => by
    have fixT : ∀ (k : Nat) (v1 : V) (w1 : W), (τ ++ [(v, w', t)])[k]? = some (v1, w1, some i) → ∃ w2, (τ ++ [(v, w, t)])[k]? = some (v1, w2, some i) := fun k v1 w1 h => by
      rcases get_snoc h with h | ⟨rfl, e⟩
      · exact ⟨w1, by rw [List.getElem?_append_left (lt_of_get h)]; exact h⟩
      · cases e
        exact ⟨w, by rw [List.getElem?_append_right (Nat.le_refl _)]; simp⟩
    obtain ⟨u1, q1⟩ := fixT k v1 w1 h1
    obtain ⟨u2, q2⟩ := fixT k' v2 w2 h2
    exact S.tie k k' v1 v2 u1 u2 i q1 q2
  pin := S.pin
  dom := S.dom
  fr := fun a o h1 h2 => by
    have h3 := S.fr a o h1 h2
    rcases h2 with h2 | h2
    · exact (e a o h3 (S.fn a (by rw [h1]; exact fun z => by cases z) h2)).1
    · exact (k a o _ h3 (S.fx a h2) fun z => by cases z).1
  fx := fun a h1 => by
    have h2 : A.H0 a ≠ none := S.dom a (by rw [h1]; exact fun z => by cases z)
    obtain ⟨o, ho⟩ := Option.ne_none_iff_exists'.mp h2
    exact (k a o _ (S.fr a o ho (.inr h1)) (S.fx a h1) fun z => by cases z).2
  fn := fun a h1 h2 => by
    obtain ⟨o, ho⟩ := Option.ne_none_iff_exists'.mp h1
    exact (e a o (S.fr a o ho (.inl h2)) (S.fn a h1 h2)).2
/-- a list of one's own becomes data -/
theorem Stt.freeze {v : V} {xs : List D} {t : Option Nat} (S : Stt G A σ g (τ ++ [(v, .lst xs, t)]) H ω) : ∃ ω', Stt G A σ g (τ ++ [(v, .val (.lst xs), t)]) H ω' ∧ Ext H ω H ω' := by
  obtain ⟨⟨a, vs, rfl, h1, h2, h3⟩, _⟩ := S.last
  have e : Ext H ω H (fun b => if ω b = some (.t τ.length) then none else ω b) := fun b o q n => ⟨q, by show (if ω b = some (.t τ.length) then none else ω b) = none; rw [n, if_neg (fun z => by cases z)]⟩
  refine ⟨_, S.last_upd e (fun b u o q r ne => ⟨q, ?_⟩) ?_, e⟩
  · show (if ω b = some (.t τ.length) then none else ω b) = some o
    rw [r, if_neg (fun z => ne (by injection z))]
  · show Dat G _ H (.lst xs) _
    unfold Dat
    refine ⟨a, vs, rfl, ⟨h1, ?_⟩, Dats.mono e _ _ h3⟩
    show (if ω a = some (.t τ.length) then none else ω a) = none
    rw [h2, if_pos rfl]
/-- a name is stored -/
theorem Stt.store {i : Nat} {v : V} {w : W} (S : Stt G A σ g (τ ++ [(v, w, none)]) H ω) (hi : i < g.length) (ho : g[i]? ≠ some (some .out)) (hp : ∀ p ∈ A.pin, p.1 ≠ i) :
    ∃ ω', Stt G A (σ.set i (some v)) (g.set i (some w)) τ H ω' ∧ Ext H ω H ω' := by
  obtain ⟨hw, _⟩ := S.last
  have hl := S.len
  refine ⟨ren ω (.t τ.length) (.s i), ⟨by rw [List.length_set, List.length_set]; exact hl, fun j u hj => ?_, fun k v' w' t' hk => ?_, S.less.tie, fun p hm => ?_, S.dom, S.fr, fun a ha => ?_, fun a h1 h2 => ren_none (S.fn a h1 h2)⟩, ren_ext⟩
  · rcases set_get hj with ⟨rfl, e, _⟩ | ⟨ne, hj⟩
    · cases e
      exact ⟨v, List.getElem?_set_self (by omega), hw.ren ren_ext fun a q => ren_at q⟩
    · obtain ⟨v', h1, h2⟩ := S.slot j u hj
      exact ⟨v', by rw [List.getElem?_set_ne (Ne.symm ne)]; exact h1, h2.ren ren_ext fun a q => ren_ne q fun z => by cases z⟩
  · have hkl := lt_of_get hk
    obtain ⟨h1, h2⟩ := S.temp k v' w' t' (by rw [List.getElem?_append_left hkl]; exact hk)
    refine ⟨h1.ren ren_ext fun a q => ren_ne q fun z => ?_, fun j e => ?_⟩
    · injection z with z
      omega
    · obtain ⟨h3, h4⟩ := h2 j e
      have ne : j ≠ i := fun z => ho (by rw [← z]; exact h4)
      exact ⟨by rw [List.getElem?_set_ne (Ne.symm ne)]; exact h3, by rw [List.getElem?_set_ne (Ne.symm ne)]; exact h4⟩
  · rw [List.getElem?_set_ne (Ne.symm (hp p hm))]
    exact S.pin p hm
  · exact ren_ne (S.fx a ha) fun z => by cases z
end
end Ev

set_option Elab.async false
set_option linter.all false
set_option maxRecDepth 100000
set_option maxHeartbeats 4000000
namespace Ev
open PySem PySem.Spec PyProof.Rows L2

/-- operations on data -/
inductive P where
  | add | sub | mul | fdiv | mod | pow | neg | abs
  | eq | ne | lt | le | gt | ge | isN | isnotN | isB (b : Bool) | isb | isnb | inn | notin
  | len | int | str | tuple | list | divmod | max2 | min2 | max1 | min1 | all | any | sum | range
  | item | slice | sliceFrom | sliceTo | rev
  | isi (t : String) | isc (c : Str)
  | split | splitn | join | part | upper | index | count
  | field (f : Str)
  deriving DecidableEq
/-- operations that change a list of one's own -/
inductive MP where
  | append | insert | popAt | extend | remove | setItem
  deriving DecidableEq

mutual
inductive CE where
  | k (d : D)
  | v (i : Nat)
  | g (x : Str)
  | tup (es : CA)
  | lst (es : CA)
  | prim (p : P) (es : CA)
  | mut (p : MP) (i : Nat) (es : CA)
  | call (f : Str) (es : CA)
  | callv (i : Nat) (es : CA)
  | mk (c : Str) (es : CA)
  | meth (i : Nat) (m : Str) (es : CA)
  | fld (i : Nat) (f : Str)
  | and (a b : CE) | or (a b : CE) | not (a : CE)
  | ite (c a b : CE)
  | sl (a b c : CE)
  | chain (p q : P) (a b c : CE)
  | chain3 (p q r : P) (a b c d : CE)
  | comp (it : CI) (tg : List Nat) (tup : Bool) (c : CE) (e : CE)
  | callx (e : CE) (es : CA)
  | spl (i : Nat) (e : CE)
inductive CA where
  | nil | cons (e : CE) (r : CA) | late (i : Nat) (r : CA)
inductive CI where
  | seq (e : CE) | range (es : CA) | enum (e : CE) | zip (a b : CE)
end
mutual
inductive CS where
  | set (i : Nat) (e : CE)
  | setT (is : List Nat) (e : CE)
  | setP (is : List Nat) (es : CA)
  | setP3 (is : List Nat) (es : CA)
  | setI (i : Nat) (ix e : CE)
  | setA (i : Nat) (f : Str) (e : CE)
  | dm (i : Nat) (d : Nat) (es : CA)
  | ex (e : CE)
  | iff (c : CE) (a b : CB)
  | for (it : CI) (tg : List Nat) (tup : Bool) (b : CB)
  | whl (c : CE) (b : CB)
  | ret (e : CE)
  | raise (c : Str) (f : Option Str) (e : CE)
  | tryAs (b : CB) (c : Str) (i j : Nat)
  | tryRd (b : CB) (c : Str) (i j : Nat) (s f : Str)
  | tryOnly (b : CB) (c : Str) (h : CB)
  | pass
inductive CB where
  | nil | cons (s : CS) (r : CB)
end

mutual
def D.toP : D → Option PyData
  | .non => some .none
  | .bl b => some (.bool b)
  | .int i => some (.int i)
  | .str x => some (.str x)
  | .tup xs => (D.toPs xs).map PyData.tuple
  | .lst xs => (D.toPs xs).map PyData.list
  | .ro _ => none
  | .fn _ => none
  | .emp => none
  | .exc0 _ => none
  | .exc1 _ _ _ => none
def D.toPs : List D → Option (List PyData)
  | [] => some []
  | x :: xs => match D.toP x, D.toPs xs with
    | some a, some b => some (a :: b)
    | _, _ => none
end
def truth : D → Option Bool
  | .non => some false
  | .bl b => some b
  | .int i => some (i != 0)
  | .str x => if x.length ≤ sizeLine then some ((x.length : Int) != 0) else none
  | .tup xs => some !xs.isEmpty
  | .lst xs => some !xs.isEmpty
  | .ro _ => none
  | .fn _ => none
  | .emp => some false
  | .exc0 _ => none
  | .exc1 _ _ _ => none
def eqD (a b : D) : Option Bool := match a.toP, b.toP with
  | some p, some q => if SeqAt.shaped p = true ∧ SeqAt.shaped q = true then some (PyData.eqv p q) else none
  | _, _ => none
/-- what an operation may read -/
def W.d : W → Option D
  | .val d => some d
  | .lst xs => some (.lst xs)
  | .ins _ _ => none
  | .out => none
def dBools : List D → Option (List Bool)
  | [] => some []
  | .bl b :: r => (dBools r).map (b :: ·)
  | _ :: _ => none
def dInts : List D → Option (List Int)
  | [] => some []
  | .int b :: r => (dInts r).map (b :: ·)
  | _ :: _ => none
def dStrs : List D → Option (List Str)
  | [] => some []
  | .str b :: r => (dStrs r).map (b :: ·)
  | _ :: _ => none
def okMul (i j : Int) : Prop := i.natAbs.log2 + j.natAbs.log2 < 100000000
instance (i j : Int) : Decidable (okMul i j) := inferInstanceAs (Decidable (_ < _))
def okDiv (j : Int) : Prop := j ≠ 0 ∧ j.natAbs.log2 < 9000
instance (j : Int) : Decidable (okDiv j) := inferInstanceAs (Decidable (_ ∧ _))
def okPow (i j : Int) : Prop := 0 ≤ j ∧ j ≤ 1000000 ∧ i.natAbs < 2 ^ 64
instance (i j : Int) : Decidable (okPow i j) := inferInstanceAs (Decidable (_ ∧ _))
def vd (d : D) : Option W := some (.val d)
def vb (b : Bool) : Option W := some (.val (.bl b))
def vi (i : Int) : Option W := some (.val (.int i))
def ofB (b : Option Bool) : Option W := b.map fun b => .val (.bl b)

/-- own exceptions; which class is under which -/
def leaves : List Str := ["NoNumber", "NoText", "NoTube", "NoRow", "NoMeasure", "NoLevel", "NoData", "NoPrice", "NoNeeds", "NoRoom", "NoJobs", "NoCall", "NoKept"]
def subX (c c' : Str) : Option Bool := if leaves.contains c = true then (if leaves.contains c' = true then some (c == c') else if (c' == ("CordError" : Str) || c' == ("ValueError" : Str)) = true then some true else none) else none
def pIsc (c : Str) : D → Option W
  | .exc0 c' => (subX c' c).bind vb
  | .exc1 c' _ _ => (subX c' c).bind vb
  | _ => none
def isNon : D → Bool
  | .non => true
  | _ => false
def pAdd : D → D → Option W
  | .int i, .int j => vi (i + j)
  | .str i, .str j => if i.length + j.length ≤ sizeLine then vd (.str (i ++ j)) else none
  | .lst i, .lst j => if i.length + j.length ≤ sizeLine then some (.lst (i ++ j)) else none
  | .tup i, .tup j => if i.length + j.length ≤ sizeLine then vd (.tup (i ++ j)) else none
  | _, _ => none
def pSub : D → D → Option W
  | .int i, .int j => vi (i - j)
  | _, _ => none
def pMul : D → D → Option W
  | .int i, .int j => if okMul i j then vi (i * j) else none
  | .tup i, .int j => if 2 ≤ j ∧ j < 1000 ∧ 1 ≤ i.length ∧ i.length ≤ 1000 then vd (.tup (List.replicate j.toNat i).flatten) else none
  | .lst i, .int j => if 0 ≤ j ∧ j < 1000 ∧ i.length = 1 then some (.lst (List.replicate j.toNat (i.getD 0 .non))) else none
  | _, _ => none
def pFdiv : D → D → Option W
  | .int i, .int j => if okDiv j then vi (i.fdiv j) else none
  | _, _ => none
def pMod : D → D → Option W
  | .int i, .int j => if j ≠ 0 then vi (i.fmod j) else none
  | _, _ => none
def pDm : D → D → Option W
  | .int i, .int j => if 0 < j ∧ okDiv j then vd (.tup [.int (i / j), .int (i % j)]) else none
  | _, _ => none
def pPow : D → D → Option W
  | .int i, .int j => if okPow i j then vi (i ^ j.toNat) else none
  | _, _ => none
def pLt (f : Int → Int → Bool) : D → D → Option W
  | .int i, .int j => vb (f i j)
  | _, _ => none
def pMm (f : Int → Int → Int) : D → D → Option W
  | .int i, .int j => vi (f i j)
  | _, _ => none
def pNeg : D → Option W
  | .int i => vi (-i)
  | _ => none
def pAbs : D → Option W
  | .int i => vi (if i < 0 then -i else i)
  | _ => none
def pLen : D → Option W
  | .tup xs => vi xs.length
  | .lst xs => vi xs.length
  | .ro xs => vi xs.length
  | .str x => if x.length ≤ sizeLine then vi x.length else none
  | _ => none
def pInt : D → Option W
  | .int i => vi i
  | .bl b => vi (if b then 1 else 0)
  | .str x => if x.length ≤ 640 then (PySem.intText? x).bind vi else none
  | _ => none
def pStr : D → Option W
  | .int i => if i.natAbs.log2 < 1920 then vd (.str (toString i)) else none
  | _ => none
def pTuple : D → Option W
  | .lst xs => vd (.tup xs)
  | .tup xs => vd (.tup xs)
  | _ => none
def pList : D → Option W
  | .lst xs => some (.lst xs)
  | .tup xs => some (.lst xs)
  | _ => none
def pAll : D → Option W
  | .lst xs => (dBools xs).bind fun bs => vb (bs.all id)
  | _ => none
def pAny : D → Option W
  | .lst xs => (dBools xs).bind fun bs => vb (bs.any id)
  | _ => none
def pItem : D → D → Option W
  | .tup xs, .int i => (atI xs i).bind vd
  | .lst xs, .int i => (atI xs i).bind vd
  | .str x, .int i => if x.length ≤ sizeLine then (atI x.cps.toList i).bind fun c => vd (.str ⟨#[c]⟩) else none
  | _, _ => none
/-- a cut of any list -/
def cutD {α : Type} (xs : List α) (lo hi : Option Int) : List α := (xs.drop (HT.sIx xs.length 0 lo)).take (HT.sIx xs.length xs.length hi - HT.sIx xs.length 0 lo)
def pSlice (lo hi : Option Int) : D → Option W
  | .tup xs => vd (.tup (cutD xs lo hi))
  | .lst xs => some (.lst (cutD xs lo hi))
  | .ro xs => some (.lst (cutD xs lo hi))
  | .str x => if x.length ≤ sizeLine then vd (.str (cutS x lo hi)) else none
  | _ => none
def intD : D → Option Int
  | .int i => some i
  | _ => none
/-- the type of a thing, by name -/
def tyD : D → Option String
  | .non => some "NoneType"
  | .bl _ => some "bool"
  | .int _ => some "int"
  | .str _ => some "str"
  | .tup _ => some "tuple"
  | .lst _ => some "list"
  | .emp => some "dict"
  | _ => none
def tyB (u t : String) : Option Bool := if (["NoneType", "bool", "int", "str", "tuple", "list", "dict"].contains u && ["bool", "int", "str", "tuple", "list", "dict"].contains t) = true then some (u == t || (t == "int" && u == "bool")) else none
def isTy (t : String) (d : D) : Option Bool := (tyD d).bind fun u => tyB u t
def dNums : List D → Option (List Int)
  | [] => some []
  | .int i :: r => (dNums r).map (i :: ·)
  | .bl b :: r => (dNums r).map ((if b = true then 1 else 0) :: ·)
  | _ :: _ => none
def pSum : D → Option W
  | .lst xs => (dNums xs).bind fun ns => vi ns.sum
  | _ => none
def flatD : D → Bool
  | .non => true
  | .bl _ => true
  | .int _ => true
  | .str _ => true
  | _ => false
def eqF : D → D → Bool
  | .non, .non => true
  | .bl a, .bl b => a == b
  | .bl a, .int b => (if a then 1 else 0) == b
  | .int a, .bl b => a == (if b then 1 else 0)
  | .int a, .int b => a == b
  | .str a, .str b => a == b
  | _, _ => false
def pInX (a : D) (xs : List D) : Option Bool := match a.toP, D.toPs xs with
  | some p, some ds => if SeqAt.shaped p = true ∧ SeqAt.shaped (.list ds) = true then some (ds.any fun z => PyData.eqv z p) else none
  | _, _ => none
def pIn : D → D → Option Bool
  | .str x, .str z => if x.cps.size = 1 then some (decide (x.cps.getD 0 0 ∈ z.cps.toList)) else none
  | a, .tup xs => if flatD a = true ∧ xs.all flatD = true then some (xs.any fun y => eqF y a) else none
  | a, .lst xs => if flatD a = true ∧ xs.all flatD = true then some (xs.any fun y => eqF y a) else pInX a xs
  | _, _ => none
def pSplit : D → D → Option W
  | .str a, .str b => if b.length ≠ 0 ∧ a.length + 2 ≤ sizeLine then some (.lst ((Txt.split a b).map D.str)) else none
  | _, _ => none
def pPart : D → D → Option W
  | .str a, .str b => if b.length ≠ 0 ∧ a.length ≤ sizeLine then vd (.tup [.str (Txt.partition a b).1, .str (Txt.partition a b).2.1, .str (Txt.partition a b).2.2]) else none
  | _, _ => none
def joinD (a : Str) (xs : List D) : Option W := match dStrs xs with
  | some ys => if (ys.map (·.length)).sum + ys.length * a.length ≤ 16777216 then vd (.str (Txt.join a ys)) else none
  | none => none
def pJoin : D → D → Option W
  | .str a, .lst xs => joinD a xs
  | .str a, .tup xs => joinD a xs
  | _, _ => none
def indexF (xs : List D) (a : D) (j : Nat) : Option W := match xs with
  | [] => none
  | x :: r => if eqF x a = true then vi (j : Nat) else indexF r a (j + 1)
def pIndex : D → D → Option W
  | .lst xs, a => if flatD a = true ∧ xs.all flatD = true then indexF xs a 0 else none
  | _, _ => none
def prim1 (p : P) (a : D) : Option W := match p with
  | .neg => pNeg a
  | .abs => pAbs a
  | .isN => vb (isNon a)
  | .isnotN => vb (!isNon a)
  | .len => pLen a
  | .int => pInt a
  | .str => pStr a
  | .tuple => pTuple a
  | .list => pList a
  | .all => pAll a
  | .any => pAny a
  | .isi t => ofB (isTy t a)
  | .isc c => pIsc c a
  | .sum => pSum a
  | _ => none
def pIsb : D → D → Option W
  | .bl a, .bl b => vb (decide (a = b))
  | _, _ => none
def pIsnb : D → D → Option W
  | .bl a, .bl b => vb (!decide (a = b))
  | _, _ => none
def prim2 (p : P) (a b : D) : Option W := match p with
  | .isb => pIsb a b
  | .isnb => pIsnb a b
  | .add => pAdd a b
  | .sub => pSub a b
  | .mul => pMul a b
  | .fdiv => pFdiv a b
  | .mod => pMod a b
  | .pow => pPow a b
  | .divmod => pDm a b
  | .eq => ofB (eqD a b)
  | .ne => ofB ((eqD a b).map (!·))
  | .lt => pLt (fun i j => decide (i < j)) a b
  | .le => pLt (fun i j => decide (i ≤ j)) a b
  | .gt => pLt (fun i j => decide (j < i)) a b
  | .ge => pLt (fun i j => decide (j ≤ i)) a b
  | .max2 => pMm (fun i j => if j > i then j else i) a b
  | .min2 => pMm (fun i j => if j < i then j else i) a b
  | .item => pItem a b
  | .inn => ofB (pIn a b)
  | .notin => ofB ((pIn a b).map (!·))
  | .split => pSplit a b
  | .part => pPart a b
  | .join => pJoin a b
  | .index => pIndex a b
  | .sliceFrom => (intD b).bind fun i => pSlice (some i) none a
  | .sliceTo => (intD b).bind fun i => pSlice none (some i) a
  | _ => none
def prim3 (p : P) (a b c : D) : Option W := match p with
  | .slice => (intD b).bind fun i => (intD c).bind fun j => pSlice (some i) (some j) a
  | _ => none
def prim (p : P) : List D → Option W
  | [a] => prim1 p a
  | [a, b] => prim2 p a b
  | [a, b, c] => prim3 p a b c
  | _ => none

structure Exn where
  c : Str
  f : Option (Str × D)
def excD (x : Exn) : D := match x.f with
  | none => .exc0 x.c
  | some (n, d) => .exc1 x.c n d
inductive ER (α : Type) where
  | ok (a : α) (g : Sg)
  | exc (e : Exn) (g : Sg)
inductive SR where
  | nx (g : Sg) | ret (w : W) (g : Sg) | exc (e : Exn) (g : Sg)
/-- what a def does: of what is handed in; what comes, and what stands in its parameters behind -/
inductive FR where
  | ret (w : W) (outs : List W) | exc (e : Exn) (outs : List W)
structure Fe where
  gv : Str → Option D
  fn : Str → Option (List W → Option FR)
  ini : Str → Option (List W → Option FR)
  met : Str → Str → Option (List W → Option FR)

def giveBack : List (W × Option Nat) → Sg → Sg
  | [], g => g
  | (_, none) :: r, g => giveBack r g
  | (w, some i) :: r, g => (giveBack r g).set i (some w)
def outsTo : List (W × Option Nat) → List W → List (W × Option Nat)
  | [], _ => []
  | (_, t) :: r, [] => (.out, t) :: outsTo r []
  | (_, t) :: r, o :: os => (o, t) :: outsTo r os
def wds : List (W × Option Nat) → Option (List D)
  | [] => some []
  | (w, _) :: r => match w.d, wds r with
    | some d, some ds => some (d :: ds)
    | _, _ => none
def freeze : W → Option D
  | .val d => some d
  | .lst xs => some (.lst xs)
  | _ => none
def freezes : List W → Option (List D)
  | [] => some []
  | w :: r => match freeze w, freezes r with
    | some d, some ds => some (d :: ds)
    | _, _ => none
/-- a prim's end -/
def endP (p : P) (as : List (W × Option Nat)) (g : Sg) : Option (ER W) := match wds as with
  | some ds => (match prim p ds with
    | some w => some (.ok w (giveBack as g))
    | none => none)
  | none => none
def ofO {α β : Type} (o : Option α) (f : α → Option β) : Option β := match o with
  | some a => f a
  | none => none
def mPop (xs : List D) (i : Int) : Option (D × List D) := if -(2 ^ 63) ≤ i ∧ i < 2 ^ 63 then ofO (ixN xs.length i) fun k => ofO xs[k]? fun d => some (d, xs.eraseIdx k) else none
def mExt (xs : List D) : D → Option (D × List D)
  | .lst ys => if xs.length + ys.length ≤ sizeLine then some (.non, xs ++ ys) else none
  | _ => none
def mprim1 (p : MP) (xs : List D) (d : D) : Option (D × List D) := match p with
  | .append => if xs.length + 1 ≤ sizeLine then some (.non, xs ++ [d]) else none
  | .popAt => ofO (intD d) fun i => mPop xs i
  | .extend => mExt xs d
  | _ => none
def mprim2 (p : MP) (xs : List D) (i d : D) : Option (D × List D) := match p with
  | .insert => ofO (intD i) fun i => if 0 ≤ i ∧ i ≤ xs.length ∧ xs.length + 1 ≤ sizeLine then some (.non, xs.take i.toNat ++ [d] ++ xs.drop i.toNat) else none
  | .setItem => ofO (intD i) fun i => ofO (ixN xs.length i) fun k => some (.non, xs.set k d)
  | _ => none
def mprim (p : MP) (xs : List D) : List D → Option (D × List D)
  | [d] => mprim1 p xs d
  | [i, d] => mprim2 p xs i d
  | _ => none
/-- the list in slot i is changed by what was handed in -/
def endM (p : MP) : List (W × Option Nat) → Sg → Option (ER W)
  | (.lst xs, t) :: as, g => (match freezes (as.map (·.1)) with
    | some ds => (match mprim p xs ds with
      | some (d, ys) => some (.ok (.val d) (giveBack [(.lst ys, t)] g))
      | none => none)
    | none => none)
  | _, _ => none
/-- a call's end -/
def endC (f : Option (List W → Option FR)) (as : List (W × Option Nat)) (g : Sg) : Option (ER W) := match f with
  | some f => (match f (as.map (·.1)) with
    | some (.ret w os) => some (.ok w (giveBack (outsTo as os) g))
    | some (.exc e os) => some (.exc e (giveBack (outsTo as os) g))
    | none => none)
  | none => none
def wtruth (w : W) : Option Bool := match w.d with
  | some d => truth d
  | none => none
def putD (f : Str) (d : D) : List (Str × D) → List (Str × D)
  | [] => [(f, d)]
  | (h, x) :: r => if h = f then (h, d) :: r else (h, x) :: putD f d r
/-- a target's names take a value -/
def setAll : List Nat → List D → Sg → Option Sg
  | [], [], g => some g
  | i :: is, d :: ds, g => (match g[i]? with
    | some (some .out) => none
    | some _ => setAll is ds (g.set i (some (.val d)))
    | none => none)
  | _, _, _ => none
def setTg (tg : List Nat) (tup : Bool) (d : D) (g : Sg) : Option Sg := match tup with
  | false => setAll tg [d] g
  | true => (match d with
    | .tup ds => setAll tg ds g
    | _ => none)
def wipeG (g : Sg) : List Nat → Option Sg
  | [] => some g
  | i :: is => match wipeG g is with
    | some g' => (match g'[i]? with
      | some none => some g'
      | some (some (.val _)) => some (g'.set i none)
      | _ => none)
    | none => none
def restG (g0 : Sg) : List Nat → Sg → Sg
  | [], g => g
  | i :: is, g => restG g0 is (g.set i (g0.getD i none))
def compL (f : D → Sg → Option (Option D × Sg)) : List D → Sg → Option (List D × Sg)
  | [], g => some ([], g)
  | d :: ds, g => match f d g with
    | some (o, g') => (match compL f ds g' with
      | some (r, g2) => some (match o with
        | some x => x :: r
        | none => r, g2)
      | none => none)
    | none => none
def forL (f : D → Sg → Option SR) : List D → Sg → Option SR
  | [], g => some (.nx g)
  | d :: ds, g => match f d g with
    | some (.nx g') => forL f ds g'
    | r => r
def zipD : List D → List D → List D
  | a :: as, b :: bs => .tup [a, b] :: zipD as bs
  | _, _ => []
def enumD (k : Nat) : List D → List D
  | [] => []
  | a :: as => .tup [.int k, a] :: enumD (k + 1) as
def seqD : D → Option (List D)
  | .tup xs => some xs
  | .lst xs => some xs
  | .ro xs => some xs
  | .str x => some (x.cps.toList.map fun c => .str ⟨#[c]⟩)
  | _ => none
def rangeD (lo : Int) : Nat → List D
  | 0 => []
  | n + 1 => .int lo :: rangeD (lo + 1) n
def rangeDC (c lo : Int) : Nat → List D
  | 0 => []
  | n + 1 => .int lo :: rangeDC c (lo + c) n
def rangeOf : List D → Option (List D)
  | [.int j] => if j < 2 ^ 62 ∧ -(2 ^ 62) ≤ j then some (rangeD 0 j.toNat) else none
  | [.int i, .int j] => if (j < 2 ^ 62 ∧ -(2 ^ 62) ≤ j) ∧ (i < 2 ^ 62 ∧ -(2 ^ 62) ≤ i) then some (rangeD i (j - i).toNat) else none
  | [.int i, .int j, .int c] => if (c ≠ 0 ∧ c.natAbs < 1073741824) ∧ Builtin.Range.small i j c = true ∧ 0 ≤ Builtin.Range.rangeSize i j c then some (rangeDC c i (Builtin.Range.rangeSize i j c).toNat) else none
  | _ => none

/-- a slot's thing is handed on: data as it is, a list or an instance of one's own is lent -/
def lend (i : Nat) (g : Sg) : Option (ER (W × Option Nat)) := match g[i]? with
  | some (some (.val d)) => some (.ok (.val d, none) g)
  | some (some .out) => none
  | some (some w) => some (.ok (w, some i) (g.set i (some .out)))
  | _ => none
/-- the list that lies in a slot -/
def lstAt (i : Nat) (g : Sg) : Option (List D) := match g[i]? with
  | some (some (.lst xs)) => some xs
  | _ => none
def valsA : List (W × Option Nat) → Option Unit
  | [] => some ()
  | (.val _, none) :: r => valsA r
  | _ => none
def noTie : Option (ER W) → Option (ER (W × Option Nat))
  | some (.ok w g1) => some (.ok (w, none) g1)
  | some (.exc e g1) => some (.exc e g1)
  | none => none
def argOf (e : CE) (g : Sg) (r : Option (ER W)) : Option (ER (W × Option Nat)) := match e with
  | .v i => lend i g
  | _ => noTie r

def bR {α β : Type} (m : Option (ER α)) (f : α → Sg → Option (ER β)) : Option (ER β) := match m with
  | some (.ok a g) => f a g
  | some (.exc e g) => some (.exc e g)
  | none => none
/-- a list handed on ahead of things that change it: lent behind them -/
def endLate (i : Nat) (as : List (W × Option Nat)) (g1 : Sg) : Option (ER (List (W × Option Nat))) := ofO (valsA as) fun _ => bR (lend i g1) fun a g2 => some (.ok (a :: as) g2)
def bS {α : Type} (m : Option (ER α)) (f : α → Sg → Option SR) : Option SR := match m with
  | some (.ok a g) => f a g
  | some (.exc e g) => some (.exc e g)
  | none => none
/-- the data in a slot: read, not lent -/
def getS (i : Nat) (g : Sg) : Option (ER W) := match g[i]? with
  | some (some (.val d)) => some (.ok (.val d) g)
  | some (some .out) => none
  | some (some w) => some (.ok w (g.set i none))
  | _ => none
/-- a display's items -/
def items (as : List (W × Option Nat)) : Option (List D) := if (as.all fun a => a.2.isNone) = true ∧ as.length ≤ 1000 then freezes (as.map (·.1)) else none
def testW (w : W) (g : Sg) (f : Bool → Option (ER W)) : Option (ER W) := match wtruth w with
  | some b => f b
  | none => none
def isV : W → Option D
  | .val d => some d
  | _ => none
def isBl : W → Option Bool
  | .val (.bl b) => some b
  | _ => none
def isL : W → Option (List D)
  | .lst xs => some xs
  | _ => none
def isFn (i : Nat) (g : Sg) : Option Str := match g[i]? with
  | some (some (.val (.fn f))) => some f
  | _ => none
def fnW : W → Option Str
  | .val (.fn f) => some f
  | _ => none
def strAt (i : Nat) (g : Sg) : Option Str := match g[i]? with
  | some (some (.val (.str x))) => some x
  | _ => none
def insOf : W → Option Str
  | .ins c _ => some c
  | _ => none
/-- own classes whose instances have plain attributes -/
def insC : List Str := ["Line", "Reach", "Funnel", "Levels", "Desk"]
def fldOf (i : Nat) (f : Str) (g : Sg) : Option D := match g[i]? with
  | some (some (.ins c fs)) => if insC.contains c = true then fs.lookup f else none
  | some (some (.val (.exc1 c n x))) => if n = f ∧ leaves.contains c = true then some x else none
  | _ => none
def endK (f : Option (List W → Option FR)) (c : Str) (as : List (W × Option Nat)) (g : Sg) : Option (ER W) := match f with
  | some f => (match f (.ins c [] :: as.map (·.1)) with
    | some (.ret (.val .non) (w :: os)) => some (.ok w (giveBack (outsTo as os) g))
    | some (.exc e (_ :: os)) => some (.exc e (giveBack (outsTo as os) g))
    | _ => none)
  | none => none
/-- what is walked: the items -/
def walkE : D → Option (List D)
  | .lst xs => some (enumD 0 xs)
  | _ => none
def walkZ : D → D → Option (List D)
  | .lst xs, .lst ys => some (zipD xs ys)
  | .tup xs, .tup ys => some (zipD xs ys)
  | _, _ => none
/-- a comprehension's turn -/
def turnC (tg : List Nat) (tup : Bool) (c e : Sg → Option (ER W)) (d : D) (h : Sg) : Option (Option D × Sg) := match setTg tg tup d h with
  | some h1 => (match c h1 with
    | some (.ok w h2) => (match wtruth w with
      | some true => (match e h2 with
        | some (.ok w2 h3) => (match freeze w2, wipeG h3 tg with
          | some x, some h4 => some (some x, h4)
          | _, _ => none)
        | _ => none)
      | some false => (match wipeG h2 tg with
        | some h4 => some (none, h4)
        | none => none)
      | none => none)
    | _ => none)
  | none => none
def endL (tg : List Nat) (tup : Bool) (c e : Sg → Option (ER W)) (ds : List D) (bk : List (W × Option Nat)) (g1 : Sg) : Option (ER W) := match wipeG g1 tg with
  | some g2 => (match compL (turnC tg tup c e) ds g2 with
    | some (xs, g3) => if xs.length ≤ 100000 then some (.ok (.lst xs) (giveBack bk (restG g1 tg g3))) else none
    | none => none)
  | none => none
def isI : W → Option Int
  | .val (.int i) => some i
  | _ => none
def endSl (i j : Int) (x : W × Option Nat) (g : Sg) : Option (ER W) := ofO x.1.d fun d => ofO (pSlice (some i) (some j) d) fun w => some (.ok w (giveBack [x] g))
/-- a comparison of two: True or False -/
def cmpB (p : P) (x y : D) : Option Bool := ofO (prim p [x, y]) isBl
section
variable (F : Fe)
mutual
def evE : CE → Sg → Option (ER W)
  | .k d, g => some (.ok (.val d) g)
  | .v i, g => getS i g
  | .g x, g => ofO (F.gv x) fun d => some (.ok (.val d) g)
  | .tup es, g => bR (evA es g) fun as g1 => ofO (items as) fun ds => some (.ok (.val (.tup ds)) g1)
  | .lst es, g => bR (evA es g) fun as g1 => ofO (items as) fun ds => some (.ok (.lst ds) g1)
  | .prim p es, g => bR (evA es g) (endP p)
  | .mut p i es, g => bR (lend i g) fun a g0 => ofO (isL a.1) fun _ => bR (evA es g0) fun as g1 => endM p (a :: as) g1
  | .call f es, g => ofO (F.fn f) fun s => bR (evA es g) (endC (some s))
  | .callv i es, g => ofO (isFn i g) fun f => ofO (F.fn f) fun s => bR (evA es g) (endC (some s))
  | .mk c es, g => bR (evA es g) (endK (F.ini c) c)
  | .meth i m es, g => bR (lend i g) fun a g0 => ofO (insOf a.1) fun c => bR (evA es g0) fun as g1 => endC (F.met c m) (a :: as) g1
  | .fld i f, g => ofO (fldOf i f g) fun d => some (.ok (.val d) g)
  | .and a b, g => bR (evE a g) fun w g1 => testW w g1 fun t => match t with
    | true => evE b g1
    | false => some (.ok w g1)
  | .or a b, g => bR (evE a g) fun w g1 => testW w g1 fun t => match t with
    | false => evE b g1
    | true => some (.ok w g1)
  | .not a, g => bR (evE a g) fun w g1 => testW w g1 fun t => some (.ok (.val (.bl !t)) g1)
  | .ite c a b, g => bR (evE c g) fun w g1 => testW w g1 fun t => match t with
    | true => evE a g1
    | false => evE b g1
  | .sl a b c, g => bR (argOf a g (evE a g)) fun x g1 => bR (evE b g1) fun w g2 => ofO (isI w) fun i => bR (evE c g2) fun w2 g3 => ofO (isI w2) fun j => endSl i j x g3
  | .chain p q a b c, g => bR (evE a g) fun x g1 => ofO (isV x) fun x => bR (evE b g1) fun y g2 => ofO (isV y) fun y => ofO (cmpB p x y) fun t => match t with
    | true => bR (evE c g2) fun z g3 => ofO (isV z) fun z => ofO (cmpB q y z) fun t => some (.ok (.val (.bl t)) g3)
    | false => some (.ok (.val (.bl false)) g2)
  | .chain3 p q r a b c d, g => bR (evE a g) fun x g1 => ofO (isV x) fun x => bR (evE b g1) fun y g2 => ofO (isV y) fun y => ofO (cmpB p x y) fun t => match t with
    | true => bR (evE c g2) fun z g3 => ofO (isV z) fun z => ofO (cmpB q y z) fun t => match t with
      | true => bR (evE d g3) fun u g4 => ofO (isV u) fun u => ofO (cmpB r z u) fun t => some (.ok (.val (.bl t)) g4)
      | false => some (.ok (.val (.bl false)) g3)
    | false => some (.ok (.val (.bl false)) g2)
  | .comp it tg tup c e, g => bR (evI it g) fun a g1 => endL tg tup (evE c) (evE e) a.1 a.2 g1
  | .callx e es, g => bR (evE e g) fun w g1 => ofO (fnW w) fun f => ofO (F.fn f) fun s => bR (evA es g1) (endC (some s))
  | .spl i e, g => ofO (strAt i g) fun x => bR (evE e g) fun w g1 => ofO (isV w) fun d => ofO (prim .split [.str x, d]) fun w => some (.ok w g1)
def evA : CA → Sg → Option (ER (List (W × Option Nat)))
  | .nil, g => some (.ok [] g)
  | .cons e r, g => bR (argOf e g (evE e g)) fun a g1 => bR (evA r g1) fun as g2 => some (.ok (a :: as) g2)
  | .late i r, g => ofO (lstAt i g) fun _ => bR (evA r g) (endLate i)
/-- what is walked: the items; what goes back behind the walk -/
def evI : CI → Sg → Option (ER (List D × List (W × Option Nat)))
  | .seq e, g => bR (argOf e g (evE e g)) fun a g1 => ofO a.1.d fun d => ofO (seqD d) fun xs => some (.ok (xs, [a]) g1)
  | .range es, g => bR (evA es g) fun as g1 => ofO (wds as) fun ds => ofO (rangeOf ds) fun xs => some (.ok (xs, []) (giveBack as g1))
  | .enum e, g => bR (argOf e g (evE e g)) fun a g1 => ofO a.1.d fun d => ofO (walkE d) fun xs => some (.ok (xs, [a]) g1)
  | .zip a b, g => bR (argOf a g (evE a g)) fun x g1 => bR (argOf b g1 (evE b g1)) fun y g2 => ofO x.1.d fun d => ofO y.1.d fun e => ofO (walkZ d e) fun xs => some (.ok (xs, [x, y]) g2)
end
def evT (c : CE) (g : Sg) : Option (ER Bool) := bR (evE F c g) fun w g1 => ofO (wtruth w) fun b => some (.ok b g1)
end
def wstep (c : Sg → Option (ER Bool)) (b : Sg → Option SR) (k : Sg → Option SR) (g : Sg) : Option SR := match c g with
  | some (.ok true g1) => (match b g1 with
    | some (.nx g2) => k g2
    | r => r)
  | some (.ok false g1) => some (.nx g1)
  | some (.exc e g1) => some (.exc e g1)
  | none => none
def whileN (c : Sg → Option (ER Bool)) (b : Sg → Option SR) : Nat → Sg → Option SR
  | 0, _ => none
  | n + 1, g => wstep c b (whileN c b n) g
theorem wstep_mono {c : Sg → Option (ER Bool)} {b : Sg → Option SR} {k k' : Sg → Option SR} (hk : ∀ g r, k g = some r → k' g = some r) {g : Sg} {r : SR} (h : wstep c b k g = some r) : wstep c b k' g = some r := by
  unfold wstep at h ⊢
  cases hc : c g with
  | none => rw [hc] at h; cases h
  | some q =>
    rw [hc] at h
    cases q with
    | exc e g1 => exact h
    | ok t g1 =>
      cases t with
      | false => exact h
      | true =>
        dsimp only at h ⊢
        cases hb : b g1 with
        | none => rw [hb] at h; cases h
        | some q2 =>
          rw [hb] at h
          cases q2 with
          | nx g2 => exact hk _ _ h
          | ret w g2 => exact h
          | exc e g2 => exact h
theorem whileN_mono {c : Sg → Option (ER Bool)} {b : Sg → Option SR} : ∀ {n m : Nat} {g : Sg} {r : SR}, whileN c b n g = some r → n ≤ m → whileN c b m g = some r
  | 0, _, _, _, h, _ => by cases h
  | n + 1, 0, _, _, _, hm => by omega
  | n + 1, m + 1, g, r, h, hm => wstep_mono (fun _ _ q => whileN_mono q (by omega)) h
open Classical in
noncomputable def whileS (c : Sg → Option (ER Bool)) (b : Sg → Option SR) (g : Sg) : Option SR :=
  if h : ∃ n r, whileN c b n g = some r then whileN c b h.choose g else none
theorem whileS_of {c : Sg → Option (ER Bool)} {b : Sg → Option SR} {g : Sg} {n : Nat} {r : SR} (h : whileN c b n g = some r) : whileS c b g = some r := by
  have hx : ∃ n r, whileN c b n g = some r := ⟨n, r, h⟩
  unfold whileS
  rw [dif_pos hx]
  obtain ⟨r', h'⟩ := hx.choose_spec
  have h1 := whileN_mono h (Nat.le_max_left n hx.choose)
  have h2 := whileN_mono h' (Nat.le_max_right n hx.choose)
  rw [h1] at h2
  cases h2
  exact h'
theorem whileS_some {c : Sg → Option (ER Bool)} {b : Sg → Option SR} {g : Sg} {r : SR} (h : whileS c b g = some r) : ∃ n, whileN c b n g = some r := by
  unfold whileS at h
  split at h
  · exact ⟨_, h⟩
  · cases h
/-- one turn -/
theorem whileS_eq {c : Sg → Option (ER Bool)} {b : Sg → Option SR} (g : Sg) : whileS c b g = wstep c b (whileS c b) g := by
  have key : ∀ r, whileS c b g = some r ↔ wstep c b (whileS c b) g = some r := by
    intro r
    constructor
    · intro h
      obtain ⟨n, hn⟩ := whileS_some h
      cases n with
      | zero => cases hn
      | succ n => exact wstep_mono (fun _ _ q => whileS_of q) hn
    · intro h
      have h0 := h
      unfold wstep at h
      cases hc : c g with
      | none => rw [hc] at h; cases h
      | some q =>
        rw [hc] at h
        have one : ∀ k, wstep c b k g = some r → whileS c b g = some r ∨ True := fun _ _ => .inr trivial
        cases q with
        | exc e g1 => exact whileS_of (n := 1) (by show wstep c b _ g = _; unfold wstep; rw [hc]; exact h)
        | ok t g1 =>
          cases t with
          | false => exact whileS_of (n := 1) (by show wstep c b _ g = _; unfold wstep; rw [hc]; exact h)
          | true =>
            dsimp only at h
            cases hb : b g1 with
            | none => rw [hb] at h; cases h
            | some q2 =>
              rw [hb] at h
              cases q2 with
              | nx g2 =>
                obtain ⟨n, hn⟩ := whileS_some h
                exact whileS_of (n := n + 1) (by show wstep c b _ g = _; unfold wstep; rw [hc]; dsimp only; rw [hb]; exact hn)
              | ret w g2 => exact whileS_of (n := 1) (by show wstep c b _ g = _; unfold wstep; rw [hc]; dsimp only; rw [hb]; exact h)
              | exc e g2 => exact whileS_of (n := 1) (by show wstep c b _ g = _; unfold wstep; rw [hc]; dsimp only; rw [hb]; exact h)
  cases e : whileS c b g with
  | some r => exact ((key r).mp e).symm
  | none =>
    cases e2 : wstep c b (whileS c b) g with
    | none => rfl
    | some r => rw [(key r).mpr e2] at e; cases e

section
variable (F : Fe) (pin : List Nat)
def storeG (i : Nat) (w : W) (g : Sg) : Option SR := match g[i]? with
  | some (some .out) => none
  | some _ => if i ∈ pin then none else some (.nx (g.set i (some w)))
  | none => none
def setTgP (tg : List Nat) (tup : Bool) (d : D) (g : Sg) : Option Sg := if (tg.all fun i => !pin.contains i) = true then setTg tg tup d g else none
/-- divmod's two: the first into the list's first place, the other into a name -/
def dmG (i d : Nat) (g : Sg) : W → Option SR
  | .val (.tup [a, b]) => (match g[i]? with
    | some (some (.lst (_ :: r))) => storeG pin d (.val b) (g.set i (some (.lst (a :: r))))
    | _ => none)
  | _ => none
def bkS (bk : List (W × Option Nat)) : Option SR → Option SR
  | some (.nx g) => some (.nx (giveBack bk g))
  | some (.ret w g) => some (.ret w (giveBack bk g))
  | some (.exc e g) => some (.exc e (giveBack bk g))
  | none => none
def turnF (pin tg : List Nat) (tup : Bool) (b : Sg → Option SR) (d : D) (h : Sg) : Option SR := ofO (setTgP pin tg tup d h) b
def seqS (m : Option SR) (f : Sg → Option SR) : Option SR := match m with
  | some (.nx g) => f g
  | r => r
def setAG (i : Nat) (f : Str) (d : D) (g : Sg) : Option SR := match g[i]? with
  | some (some (.ins c fs)) => if fs.length < 100 then some (.nx (g.set i (some (.ins c (putD f d fs))))) else none
  | _ => none
def setIG (d : D) (ix : Sg → Option (ER W)) : W × Option Nat → Sg → Option SR
  | (.lst xs, t), g => bS (ix g) fun j g3 => ofO (isV j) fun j => ofO (mprim .setItem xs [j, d]) fun r => some (.nx (giveBack [(.lst r.2, t)] g3))
  | _, _ => none
def parOf : List (W × Option Nat) → Option (List D)
  | [(.val a, none), (.val b, none)] => some [a, b]
  | _ => none
def parOf3 : List (W × Option Nat) → Option (List D)
  | [(.val a, none), (.val b, none), (.val c, none)] => some [a, b, c]
  | _ => none
def catchS (c : Str) (m : Option SR) (f : Exn → Sg → Option SR) : Option SR := match m with
  | some (.exc x g) => ofO (subX x.c c) fun b => match b with
    | true => f x g
    | false => some (.exc x g)
  | r => r
/-- a caught exception goes into a name -/
def exStore (i j : Nat) (x : Exn) (g : Sg) : Option SR := match g[i]? with
  | some none => if i ∈ pin ∨ i = j then none else storeG pin j (.val (excD x)) g
  | _ => none
/-- what a caught exception's field says goes into a name: with a word ahead, or None for True and False -/
def rdD (s : Str) (d : D) : Bool → D
  | true => .non
  | false => .tup [.str s, d]
def exRead (i j : Nat) (s f : Str) (x : Exn) (g : Sg) : Option SR := match x.f with
  | some (f', d) => if f' = f ∧ i ∉ pin ∧ i ≠ j then (match g[i]? with
    | some none => ofO (isTy "bool" d) fun b => storeG pin j (.val (rdD s d b)) g
    | _ => none) else none
  | none => none
mutual
noncomputable def evS : CS → Sg → Option SR
  | .set i e, g => bS (evE F e g) fun w g1 => storeG pin i w g1
  | .setT is e, g => bS (evE F e g) fun w g1 => ofO (isV w) fun d => (setTgP pin is true d g1).map .nx
  | .setP is es, g => bS (evA F es g) fun as g1 => ofO (parOf as) fun ds => (setTgP pin is true (.tup ds) g1).map .nx
  | .setP3 is es, g => bS (evA F es g) fun as g1 => ofO (parOf3 as) fun ds => (setTgP pin is true (.tup ds) g1).map .nx
  | .setI i ix e, g => bS (evE F e g) fun w g1 => ofO (freeze w) fun d => bS (lend i g1) fun a g2 => setIG d (evE F ix) a g2
  | .setA i f e, g => bS (evE F e g) fun w g1 => ofO (freeze w) fun d => setAG i f d g1
  | .dm i d es, g => bS (evE F (.prim .divmod es) g) fun w g1 => dmG pin i d g1 w
  | .ex e, g => bS (evE F e g) fun _ g1 => some (.nx g1)
  | .iff c a b, g => bS (evT F c g) fun t g1 => match t with
    | true => evB a g1
    | false => evB b g1
  | .for it tg tup b, g => bS (evI F it g) fun a g1 => bkS a.2 (forL (turnF pin tg tup (evB b)) a.1 g1)
  | .whl c b, g => whileS (evT F c) (evB b) g
  | .ret e, g => bS (evE F e g) fun w g1 => some (.ret w g1)
  | .raise c f e, g => bS (evE F e g) fun w g1 => ofO (isV w) fun d => some (.exc ⟨c, f.map fun f => (f, d)⟩ g1)
  | .tryAs b c i j, g => catchS c (evB b g) fun x g1 => exStore pin i j x g1
  | .tryRd b c i j s f, g => catchS c (evB b g) fun x g1 => exRead pin i j s f x g1
  | .tryOnly b c h, g => catchS c (evB b g) fun _ g1 => evB h g1
  | .pass, g => some (.nx g)
noncomputable def evB : CB → Sg → Option SR
  | .nil, g => some (.nx g)
  | .cons s r, g => seqS (evS s g) (evB r)
end
end
/-- a def: how many parameters, how many names, the parameters that stay, the body -/
structure Def where
  np : Nat
  nn : Nat
  pin : List Nat
  body : CB
def outOf (pin : List Nat) (g : Sg) (i : Nat) : W := if i ∈ pin then (match g[i]? with
  | some (some w) => w
  | _ => .out) else .out
def outsOf (d : Def) (g : Sg) : List W := (List.range d.np).map (outOf d.pin g)
noncomputable def runDef (F : Fe) (d : Def) (ws : List W) : Option FR := if ws.length = d.np then (match evB F d.pin d.body (ws.map some ++ List.replicate (d.nn - d.np) none) with
  | some (.nx g) => some (.ret (.val .non) (outsOf d g))
  | some (.ret w g) => some (.ret w (outsOf d g))
  | some (.exc e g) => some (.exc e (outsOf d g))
  | none => none) else none
end Ev

set_option Elab.async false
set_option linter.all false
set_option maxRecDepth 100000
set_option maxHeartbeats 4000000
namespace Ev
open PySem PySem.Spec PyProof.Rows L2

theorem peImp {X : Cx} {e : Expr} {t t' : TE} (h : PE X e t) (i : ∀ σ H Q, t' σ H Q → t σ H Q) : PE X e t' := ⟨fun pins s σ H Q I q => h.run pins s σ H Q I (i σ H Q q)⟩
theorem ptImp {X : Cx} {e : Expr} {t t' : TT} (h : PT X e t) (i : ∀ σ H Q, t' σ H Q → t σ H Q) : PT X e t' := ⟨fun pins s σ H Q I q => h.run pins s σ H Q I (i σ H Q q)⟩
theorem pwImp {X : Cx} {e : Expr} {t t' : TT} (h : PW X e t) (i : ∀ σ H Q, t' σ H Q → t σ H Q) : PW X e t' := ⟨fun wh pins s σ H Q I q => h.run wh pins s σ H Q I (i σ H Q q)⟩
theorem paImp {X : Cx} {e : List Expr} {t t' : TA} (h : PA X e t) (i : ∀ σ H Q, t' σ H Q → t σ H Q) : PA X e t' := ⟨fun pos pins s σ H Q I q => h.run pos pins s σ H Q I (i σ H Q q)⟩
theorem psImp {X : Cx} {e : Stmt} {t t' : TS} (h : PS X e t) (i : ∀ σ H Q, t' σ H Q → t σ H Q) : PS X e t' := ⟨fun pins s σ H Q I q => h.run pins s σ H Q I (i Q σ H q)⟩
theorem pssImp {X : Cx} {e : List Stmt} {t t' : TS} (h : PSs X e t) (i : ∀ σ H Q, t' σ H Q → t σ H Q) : PSs X e t' := ⟨fun pins s σ H Q I q => h.run pins s σ H Q I (i Q σ H q)⟩

/-- a thing that is read -/
def Vd (G : Gm) (ω : Om) (H : Hp) : D → V → Prop
  | .lst ds, v => ∃ a vs, v = .ref a ∧ H a = some (.lst vs) ∧ Dats G ω H ds vs
  | d, v => Dat G ω H d v
def Vds (G : Gm) (ω : Om) (H : Hp) : List D → List V → Prop
  | [], vs => vs = []
  | d :: ds, vs => ∃ v r, vs = v :: r ∧ Vd G ω H d v ∧ Vds G ω H ds r
theorem Dat.vd {G : Gm} {ω : Om} {H : Hp} {d : D} {v : V} (h : Dat G ω H d v) : Vd G ω H d v := by
  cases d with
  | lst ds =>
    unfold Dat at h
    obtain ⟨a, vs, rfl, h1, h2⟩ := h
    exact ⟨a, vs, rfl, h1.1, h2⟩
  | _ => exact h
theorem Vd.ext {G : Gm} {ω ω' : Om} {H : Hp} {d : D} {v : V} (e : Ext H ω H ω') (h : Vd G ω H d v) : Vd G ω' H d v := by
  cases d with
  | lst ds =>
    obtain ⟨a, vs, rfl, h1, h2⟩ := h
    exact ⟨a, vs, rfl, h1, Dats.mono e _ _ h2⟩
  | _ => exact Dat.mono e _ _ h
theorem Vds.ext {G : Gm} {ω ω' : Om} {H : Hp} (e : Ext H ω H ω') : ∀ {ds : List D} {vs : List V}, Vds G ω H ds vs → Vds G ω' H ds vs
  | [], _, h => h
  | d :: ds, vs, h => by
    obtain ⟨v, r, rfl, h1, h2⟩ := h
    exact ⟨v, r, rfl, h1.ext e, Vds.ext e h2⟩
theorem EntW.vd {G : Gm} {ω : Om} {H : Hp} {o : Own} {w : W} {v : V} {d : D} (h : EntW G ω H o w v) (e : w.d = some d) : Vd G ω H d v := by
  cases w with
  | val x =>
    have e' : x = d := Option.some.inj e
    subst e'
    exact Dat.vd h
  | lst xs =>
    have e' : D.lst xs = d := Option.some.inj e
    subst e'
    obtain ⟨a, vs, rfl, h1, _, h3⟩ := h
    exact ⟨a, vs, rfl, h1, h3⟩
  | ins c fs => cases e
  | out => cases e

def mkT : List V → List (W × Option Nat) → Tm
  | v :: vs, a :: as => (v, a.1, a.2) :: mkT vs as
  | _, _ => []
/-- an exception as it lies -/
def ExnOk (G : Gm) (ω : Om) (H : Hp) (e : Exn) (cls : Value) (d : Option Addr) : Prop := ∃ C, cls = .ref C ∧ G.cls e.c = some C ∧ (match e.f with
  | none => d = none
  | some (f, x) => ∃ dd v, d = some dd ∧ (H dd = some (.xd [(f, v)]) ∧ ω dd = none) ∧ Dat G ω H x v)

section
variable {G : Gm} {A : Amb} {σ : L2.St} {g : Sg} {H H' : Hp} {ω ω' : Om}
/-- lent things go back, the other temps go -/
theorem Stt.back : ∀ {as : List (W × Option Nat)} {vs : List V} {τ : Tm} {ω : Om}, vs.length = as.length → Stt G A σ g (τ ++ mkT vs as) H ω → ∃ ω', Stt G A σ (giveBack as g) τ H ω' ∧ Ext H ω H ω'
  | [], [], τ, ω, _, S => by
    have e : τ ++ mkT [] [] = τ := by simp [mkT]
    rw [e] at S
    exact ⟨ω, S, fun a o h n => ⟨h, n⟩⟩
  | [], _ :: _, _, _, hl, _ => by simp at hl
  | _ :: _, [], _, _, hl, _ => by simp at hl
  | (w, t) :: as, v :: vs, τ, ω, hl, S => by
    have e : τ ++ mkT (v :: vs) ((w, t) :: as) = (τ ++ [(v, w, t)]) ++ mkT vs as := by simp [mkT]
    rw [e] at S
    obtain ⟨ω1, S1, e1⟩ := Stt.back (by simpa using hl) S
    cases t with
    | none => exact ⟨ω1, S1.less, e1⟩
    | some i =>
      obtain ⟨ω2, S2, e2⟩ := S1.put
      exact ⟨ω2, S2, fun a o h n => let ⟨h1, n1⟩ := e1 a o h n; e2 a o h1 n1⟩
theorem Stt.vds : ∀ {as : List (W × Option Nat)} {vs : List V} {τ : Tm} {ds : List D}, vs.length = as.length → Stt G A σ g (τ ++ mkT vs as) H ω → wds as = some ds → Vds G ω H ds vs
  | [], [], τ, ds, _, S, h => by
    have : ds = [] := by simpa [wds] using h.symm
    subst this
    rfl
  | [], _ :: _, _, _, hl, _, _ => by simp at hl
  | _ :: _, [], _, _, hl, _, _ => by simp at hl
  | (w, t) :: as, v :: vs, τ, ds, hl, S, h => by
    have e : τ ++ mkT (v :: vs) ((w, t) :: as) = (τ ++ [(v, w, t)]) ++ mkT vs as := by simp [mkT]
    rw [e] at S
    unfold wds at h
    cases hd : w.d with
    | none => rw [hd] at h; cases h
    | some d =>
      cases hr : wds as with
      | none => rw [hd, hr] at h; cases h
      | some r =>
        rw [hd, hr] at h
        cases h
        exact ⟨v, vs, rfl, S.less.last.1.vd hd, Stt.vds (by simpa using hl) S hr⟩
end

/-- what is wanted of what comes -/
def Out {α : Type} (k : α → Sg → Prop) (kx : Exn → Sg → Prop) : Option (ER α) → Prop
  | some (.ok a g) => k a g
  | some (.exc e g) => kx e g
  | none => False
theorem Out.bind {α β : Type} {k : β → Sg → Prop} {kx : Exn → Sg → Prop} {m : Option (ER α)} {f : α → Sg → Option (ER β)} (h : Out k kx (bR m f)) : Out (fun a g => Out k kx (f a g)) kx m := by
  cases m with
  | none => exact h
  | some r => cases r <;> exact h
theorem Out.imp {α : Type} {k k' : α → Sg → Prop} {kx kx' : Exn → Sg → Prop} {m : Option (ER α)} (h : Out k kx m) (i : ∀ a g, k a g → k' a g) (j : ∀ e g, kx e g → kx' e g) : Out k' kx' m := by
  cases m with
  | none => exact h
  | some r =>
    cases r with
    | ok a g => exact i _ _ h
    | exc e g => exact j _ _ h
theorem Out.ofO {α β : Type} {k : β → Sg → Prop} {kx : Exn → Sg → Prop} {o : Option α} {f : α → Option (ER β)} (h : Out k kx (ofO o f)) : ∃ a, o = some a ∧ Out k kx (f a) := by
  cases o with
  | none => exact h.elim
  | some a => exact ⟨a, rfl, h⟩
section
variable (G : Gm) (A : Amb) (Wx : WX)
/-- what is wanted of an exception -/
def Kx (σ : L2.St) (τ : Tm) : Exn → Sg → Prop := fun e g' => ∀ cls d H' ω', Stt G A σ g' τ H' ω' → ExnOk G ω' H' e cls d → Wx cls d σ H'
/-- of a value -/
def Kv (σ : L2.St) (τ : Tm) (Q : VK) : W × Option Nat → Sg → Prop := fun a g' => ∀ v H' ω', Stt G A σ g' (τ ++ [(v, a.1, a.2)]) H' ω' → Q v H'
def Ks (σ : L2.St) (τ : Tm) (Q : List V → Hp → Prop) : List (W × Option Nat) → Sg → Prop := fun as g' => ∀ vs H' ω', vs.length = as.length → Stt G A σ g' (τ ++ mkT vs as) H' ω' → Q vs H'
def TG (m : Sg → Option (ER (W × Option Nat))) : TE := fun σ H Q => ∃ g τ ω, Stt G A σ g τ H ω ∧ Out (Kv G A σ τ Q) (Kx G A Wx σ τ) (m g)
def TAs (m : Sg → Option (ER (List (W × Option Nat)))) : TA := fun σ H Q => ∃ g τ ω, Stt G A σ g τ H ω ∧ Out (Ks G A σ τ Q) (Kx G A Wx σ τ) (m g)
variable (F : Fe)
abbrev TEv (c : CE) : TE := TG G A Wx fun g => noTie (evE F c g)
abbrev TAr (c : CE) : TE := TG G A Wx fun g => argOf c g (evE F c g)
abbrev TAv (c : CA) : TA := TAs G A Wx (evA F c)
def TTs (c : CE) : TT := fun σ H Q => ∃ g τ ω, Stt G A σ g τ H ω ∧ Out (fun b g' => ∀ H' ω', Stt G A σ g' τ H' ω' → Q b H') (Kx G A Wx σ τ) (evT F c g)
end

section
variable {G : Gm} {A : Amb} {Wx : WX} {F : Fe}
theorem Kx.less {σ : L2.St} {τ1 τ2 : Tm} {e : Exn} {g : Sg} (h : Kx G A Wx σ τ1 e g) : Kx G A Wx σ (τ1 ++ τ2) e g := fun cls d H' ω' S x => h cls d H' ω' S.less x
theorem noTie_out {m : Option (ER W)} {σ : L2.St} {τ : Tm} {Q : VK} {kx : Exn → Sg → Prop} (h : Out (Kv G A σ τ Q) kx (noTie m)) : Out (fun w g' => ∀ v H' ω', Stt G A σ g' (τ ++ [(v, w, none)]) H' ω' → Q v H') kx m := by
  cases m with
  | none => exact h
  | some r => cases r <;> exact h
theorem out_noTie {m : Option (ER W)} {σ : L2.St} {τ : Tm} {Q : VK} {kx : Exn → Sg → Prop} (h : Out (fun w g' => ∀ v H' ω', Stt G A σ g' (τ ++ [(v, w, none)]) H' ω' → Q v H') kx m) : Out (Kv G A σ τ Q) kx (noTie m) := by
  cases m with
  | none => exact h
  | some r => cases r <;> exact h
theorem tas_nil {σ : L2.St} {H : Hp} {Q : List V → Hp → Prop} (h : TAv G A Wx F .nil σ H Q) : tNil σ H Q := by
  obtain ⟨g, τ, ω, S, h⟩ := h
  simp only [evA] at h
  exact h [] H ω rfl (by simpa [mkT] using S)
theorem tas_cons {c : CE} {r : CA} {σ : L2.St} {H : Hp} {Q : List V → Hp → Prop} (h : TAv G A Wx F (.cons c r) σ H Q) : tCons (TAr G A Wx F c) (TAv G A Wx F r) σ H Q := by
  obtain ⟨g, τ, ω, S, h⟩ := h
  simp only [evA] at h
  refine ⟨g, τ, ω, S, h.bind.imp (fun a g1 h => ?_) fun _ _ h => h⟩
  intro v H1 ω1 S1
  refine ⟨g1, _, ω1, S1, h.bind.imp (fun as g2 h => ?_) fun _ _ h => h.less⟩
  intro vs H2 ω2 hl S2
  refine h (v :: vs) H2 ω2 (by simp [hl]) ?_
  have e : τ ++ mkT (v :: vs) (a :: as) = (τ ++ [(v, a.1, a.2)]) ++ mkT vs as := by simp [mkT]
  rw [e]
  exact S2
theorem lstAt_some {i : Nat} {g : Sg} {xs : List D} (h : lstAt i g = some xs) : g[i]? = some (some (.lst xs)) := by
  unfold lstAt at h
  split at h
  · rename_i e
    cases h
    exact e
  · cases h
theorem Stt.vals {A : Amb} {σ : L2.St} {g g2 : Sg} {H H2 : Hp} {ω ω2 : Om} : ∀ {as : List (W × Option Nat)} {vs : List V} {τ τ2 : Tm}, vs.length = as.length → Stt G A σ g (τ ++ mkT vs as) H ω → valsA as = some () → (∀ d v, Dat G ω H d v → Dat G ω2 H2 d v) → Stt G A σ g2 τ2 H2 ω2 → Stt G A σ g2 (τ2 ++ mkT vs as) H2 ω2
  | [], [], _, τ2, _, _, _, _, S2 => by
    have e : τ2 ++ mkT [] [] = τ2 := by simp [mkT]
    rw [e]
    exact S2
  | [], _ :: _, _, _, hl, _, _, _, _ => by simp at hl
  | _ :: _, [], _, _, hl, _, _, _, _ => by simp at hl
  | (w, t) :: as, v :: vs, τ, τ2, hl, S, h, hd, S2 => by
    have e : ∀ τ : Tm, τ ++ mkT (v :: vs) ((w, t) :: as) = (τ ++ [(v, w, t)]) ++ mkT vs as := fun τ => by simp [mkT]
    rw [e] at S ⊢
    unfold valsA at h
    split at h
    · rename_i q; cases q
    · rename_i d r q
      cases q
      have h1 : Dat G ω H d v := S.less.last.1
      exact Stt.vals (by simpa using hl) S h hd (S2.push (hd d v h1))
    · cases h
theorem tas_late {i : Nat} {r : CA} {σ : L2.St} {H : Hp} {Q : List V → Hp → Prop} (h : TAv G A Wx F (.late i r) σ H Q) : tCons (tVar i) (TAv G A Wx F r) σ H Q := by
  obtain ⟨g, τ, ω, S, h⟩ := h
  simp only [evA] at h
  obtain ⟨xs, e, h⟩ := h.ofO
  have e := lstAt_some e
  obtain ⟨v, _, h1, _, _⟩ := S.take e nofun
  refine ⟨v, h1, g, τ, ω, S, h.bind.imp (fun as g1 h => ?_) fun _ _ h => h⟩
  intro vs H2 ω2 hl S2
  unfold endLate at h
  obtain ⟨_, ev, h⟩ := h.ofO
  have h := h.bind
  unfold lend at h
  have eT : ∀ a : W × Option Nat, τ ++ mkT (v :: vs) (a :: as) = (τ ++ [(v, a.1, a.2)]) ++ mkT vs as := fun a => by simp [mkT]
  split at h
  · rename_i d e2
    obtain ⟨v', k1, k2⟩ := S2.slot i _ e2
    rw [h1] at k1
    cases k1
    have S3 : Stt G A σ g1 (τ ++ [(v, .val d, none)]) H2 ω2 := S2.less.push k2
    refine h (v :: vs) H2 ω2 (by simp [hl]) ?_
    rw [eT]
    exact Stt.vals hl S2 ev (fun _ _ z => z) S3
  · exact h.elim
  · rename_i w ho hv e2
    obtain ⟨v', ω3, k1, S3, ex⟩ := S2.less.take e2 hv
    rw [h1] at k1
    cases k1
    refine h (v :: vs) H2 ω3 (by simp [hl]) ?_
    rw [eT]
    exact Stt.vals hl S2 ev (fun d v z => Dat.mono ex _ _ z) S3
  · exact h.elim
theorem paLate {X : Cx} {e : Expr} {es : List Expr} {i : Nat} {r : CA} (h : PE X e (tVar i)) (hr : PA X es (TAv G A Wx F r)) (hs : starEach (e :: es) X.env = (false, eval e X.env) :: starEach es X.env) : PA X (e :: es) (TAv G A Wx F (.late i r)) :=
  paImp (pa_cons h hr hs) fun _ _ _ => tas_late
theorem paNil {X : Cx} : PA X [] (TAv G A Wx F .nil) := paImp pa_nil fun _ _ _ => tas_nil
theorem paCons {X : Cx} {e : Expr} {es : List Expr} {c : CE} {r : CA} (h : PE X e (TAr G A Wx F c)) (hr : PA X es (TAv G A Wx F r)) (hs : starEach (e :: es) X.env = (false, eval e X.env) :: starEach es X.env) : PA X (e :: es) (TAv G A Wx F (.cons c r)) :=
  paImp (pa_cons h hr hs) fun _ _ _ => tas_cons
theorem tg_imp {m : Sg → Option (ER (W × Option Nat))} {σ : L2.St} {H : Hp} {Q Q' : VK} (h : TG G A Wx m σ H Q) (i : ∀ v H', Q v H' → Q' v H') : TG G A Wx m σ H Q' := by
  obtain ⟨g, τ, ω, S, h⟩ := h
  exact ⟨g, τ, ω, S, h.imp (fun a g1 h v H' ω' S' => i _ _ (h v H' ω' S')) fun _ _ h => h⟩
/-- two, one behind the other -/
theorem tas_two {a b : CE} {σ : L2.St} {H : Hp} {Q : List V → Hp → Prop} {r : R2} {P : VK} (h : TAv G A Wx F (.cons a (.cons b .nil)) σ H Q) (hq : ∀ x y H1, Q [x, y] H1 → r x y H1 P) : tOp r (TAr G A Wx F a) (TAr G A Wx F b) σ H P :=
  tg_imp (tas_cons h) fun _ _ h1 => tg_imp (tas_cons h1) fun _ _ h2 => hq _ _ _ (tas_nil h2)
theorem tas_one {a : CE} {σ : L2.St} {H : Hp} {Q : List V → Hp → Prop} {P : VK} (h : TAv G A Wx F (.cons a .nil) σ H Q) (hq : ∀ x H1, Q [x] H1 → P x H1) : TAr G A Wx F a σ H P :=
  tg_imp (tas_cons h) fun _ _ h1 => hq _ _ (tas_nil h1)

/-- what an operation on data asks -/
def rP (G : Gm) (p : P) : List V → Hp → VK → Prop := fun vs H Q => ∃ o ω ds w, Vds G ω H ds vs ∧ prim p ds = some w ∧ ∀ v H' ω', Grow H ω H' ω' → EntW G ω' H' o w v → Q v H'
def r2 (G : Gm) (p : P) : R2 := fun x y => rP G p [x, y]
def r1 (G : Gm) (p : P) : V → Hp → VK → Prop := fun x => rP G p [x]
/-- an operation's end -/
theorem prim_end {p : P} {es : CA} {σ : L2.St} {H : Hp} {Q : VK} (h : TEv G A Wx F (.prim p es) σ H Q) : TAv G A Wx F es σ H fun vs H1 => rP G p vs H1 Q := by
  obtain ⟨g, τ, ω, S, h⟩ := h
  refine ⟨g, τ, ω, S, ?_⟩
  have h := noTie_out h
  simp only [evE] at h
  refine h.bind.imp (fun as g1 h => ?_) fun _ _ h => h
  intro vs H1 ω1 hl S1
  unfold endP at h
  cases e2 : wds as with
  | none => rw [e2] at h; exact h.elim
  | some ds =>
    rw [e2] at h
    dsimp only at h
    cases e3 : prim p ds with
    | none => rw [e3] at h; exact h.elim
    | some w =>
      rw [e3] at h
      have hv := Stt.vds hl S1 e2
      obtain ⟨ω2, S2, e4⟩ := S1.back hl
      exact ⟨.t τ.length, ω2, ds, w, hv.ext e4, e3, fun v H' ω' gr en => h v H' ω' ((S2.grow gr).push en)⟩
section
variable {X : Cx} {a b : Expr} {ca cb : CE} {pos : Pos} {p : P}
theorem peBin {op : Operator} (ho : OpR X (binaryOp op) (r2 G p)) (ha : PE X a (TAr G A Wx F ca)) (hb : PE X b (TAr G A Wx F cb)) : PE X (.BinOp a op b pos) (TEv G A Wx F (.prim p (.cons ca (.cons cb .nil)))) :=
  peImp (pe_op ho ha hb) fun _ _ _ h => tas_two (prim_end h) fun _ _ _ q => q
theorem peUn {op : UnaryOp} (ho : UnR X (unaryOp op) (r1 G p)) (ha : PE X a (TAr G A Wx F ca)) : PE X (.UnaryOp op a pos) (TEv G A Wx F (.prim p (.cons ca .nil))) :=
  peImp (pe_un ho ha) fun _ _ _ h => tas_one (prim_end h) fun _ _ q => q
theorem peCmp {op : CmpOp} (ho : OpR X (compareOp op) (r2 G p)) (ha : PE X a (TAr G A Wx F ca)) (hb : PE X b (TAr G A Wx F cb)) (hm : behindInMarks op b = false) : PE X (.Compare a [op] [b] pos) (TEv G A Wx F (.prim p (.cons ca (.cons cb .nil)))) :=
  peImp (pe_cmpR ho ha hb hm) fun _ _ _ h => tas_two (prim_end h) fun _ _ _ q => q
theorem peCallB {x : Str} {q : Pos} {e : Expr} {es : List Expr} {id : String} {c : CA} (hc : CallR X (.builtin id) (rP G p)) (hg : Gl X x) (hm : X.mg x = none) (hv : bootBuiltins x = some (.builtin id)) (ha : PA X (e :: es) (TAv G A Wx F c)) (hn : x ≠ "__name__") (hdb : (x == ("__debug__" : Str)) = false)
    (he : starEach (e :: es) X.env = (false, eval e X.env) :: starEach es X.env) (hpl : (backTo pos (starEach es X.env)).any (·.1) = false) : PE X (.Call (.Name x q) (e :: es) [] pos) (TEv G A Wx F (.prim p c)) :=
  peImp (pe_callB hc hg hm hv ha hn hdb he hpl) fun _ _ _ h => prim_end h
theorem peCallT {x : Str} {q : Pos} {e : Expr} {es : List Expr} {T : String} {c : CA} (hc : CallR X (.type T) (rP G p)) (hg : Gl X x) (hm : X.mg x = none) (hv : bootBuiltins x = some (.type T)) (ha : PA X (e :: es) (TAv G A Wx F c)) (hn : x ≠ "__name__") (hdb : (x == ("__debug__" : Str)) = false)
    (he : starEach (e :: es) X.env = (false, eval e X.env) :: starEach es X.env) (hpl : (backTo pos (starEach es X.env)).any (·.1) = false) : PE X (.Call (.Name x q) (e :: es) [] pos) (TEv G A Wx F (.prim p c)) :=
  peImp (pe_callTy hc hg hm hv ha hn hdb he hpl) fun _ _ _ h => prim_end h
end
end
end Ev

set_option Elab.async false
set_option linter.all false
set_option maxRecDepth 100000
set_option maxHeartbeats 4000000
namespace Ev
open PySem PySem.Spec PyProof.Rows L2
section
variable {G : Gm} {A : Amb} {σ : L2.St} {g : Sg} {τ : Tm} {H H' : Hp} {ω ω' : Om}
theorem Stt.untie {i : Nat} {v : V} {w : W} (S : Stt G A σ g (τ ++ [(v, w, some i)]) H ω) : Stt G A σ (g.set i none) (τ ++ [(v, w, none)]) H ω where
  len := by rw [List.length_set]; exact S.len
  slot := fun j u hj => by
    rcases set_get hj with ⟨rfl, e, _⟩ | ⟨ne, hj⟩
    · cases e
    · exact S.slot j u hj
  temp := fun k v' w' t' hk => by
    rcases get_snoc hk with hk | ⟨rfl, e⟩
    · have hk' : (τ ++ [(v, w, some i)])[k]? = some (v', w', t') := by rw [List.getElem?_append_left (lt_of_get hk)]; exact hk
      obtain ⟨h1, h2⟩ := S.temp k v' w' t' hk'
      refine ⟨h1, fun j e => ?_⟩
      obtain ⟨h3, h4⟩ := h2 j e
      refine ⟨h3, ?_⟩
      have ne : j ≠ i := fun z => by
        subst z
        subst e
        have h5 := lt_of_get hk
        have := S.tie k τ.length v' v w' w j hk' (by rw [List.getElem?_append_right (Nat.le_refl _)]; simp)
        omega
      rw [List.getElem?_set_ne (Ne.symm ne)]
      exact h4
    · cases e
      exact ⟨S.last.1, nofun⟩
  tie := fun k k' v1 v2 w1 w2 j h1 h2 => by
    rcases get_snoc h1 with h1 | ⟨_, e⟩
    · rcases get_snoc h2 with h2 | ⟨_, e⟩
      · exact S.less.tie k k' v1 v2 w1 w2 j h1 h2
      · cases e
    · cases e
  pin := S.pin
  dom := S.dom
  fr := S.fr
  fx := S.fx
  fn := S.fn
theorem Ext.trans {H1 : Hp} {ω1 : Om} {H2 : Hp} {ω2 : Om} (a : Ext H ω H1 ω1) (b : Ext H1 ω1 H2 ω2) : Ext H ω H2 ω2 := fun c o h n => b c o (a c o h n).1 (a c o h n).2
theorem Ext.refl : Ext H ω H ω := fun _ _ h n => ⟨h, n⟩
/-- a temp, as data -/
theorem Stt.froze {v : V} {w : W} {d : D} {t : Option Nat} (S : Stt G A σ g (τ ++ [(v, w, t)]) H ω) (e : Ev.freeze w = some d) : ∃ ω', Stt G A σ g (τ ++ [(v, .val d, t)]) H ω' ∧ Ext H ω H ω' := by
  cases w with
  | val x => cases e; exact ⟨ω, S, Ext.refl⟩
  | lst xs => cases e; exact S.freeze
  | ins c fs => cases e
  | out => cases e
theorem Stt.frozen : ∀ {as : List (W × Option Nat)} {vs : List V} {τ : Tm} {ω : Om} {ds : List D}, vs.length = as.length → Stt G A σ g (τ ++ mkT vs as) H ω → freezes (as.map (·.1)) = some ds →
    ∃ ω', Stt G A σ g τ H ω' ∧ Dats G ω' H ds vs ∧ Ext H ω H ω'
  | [], [], τ, ω, ds, _, S, h => by
    have : ds = [] := by simpa [freezes] using h.symm
    subst this
    exact ⟨ω, by simpa [mkT] using S, Dats.nil, Ext.refl⟩
  | [], _ :: _, _, _, _, hl, _, _ => by simp at hl
  | _ :: _, [], _, _, _, hl, _, _ => by simp at hl
  | (w, t) :: as, v :: vs, τ, ω, ds, hl, S, h => by
    have e : τ ++ mkT (v :: vs) ((w, t) :: as) = (τ ++ [(v, w, t)]) ++ mkT vs as := by simp [mkT]
    rw [e] at S
    simp only [List.map_cons, freezes] at h
    cases hd : Ev.freeze w with
    | none => rw [hd] at h; cases h
    | some d =>
      cases hr : freezes (as.map (·.1)) with
      | none => rw [hd, hr] at h; cases h
      | some r =>
        rw [hd, hr] at h
        cases h
        obtain ⟨ω1, S1, D1, e1⟩ := Stt.frozen (by simpa using hl) S hr
        obtain ⟨ω2, S2, e2⟩ := S1.froze hd
        exact ⟨ω2, S2.less, Dats.cons S2.last.1 (Dats.mono e2 _ _ D1), e1.trans e2⟩
end
section
variable {G : Gm} {A : Amb} {Wx : WX} {F : Fe} {X : Cx}
theorem tevK {d : D} {v : V} {σ : L2.St} {H : Hp} {Q : VK} (hd : ∀ ω H, Dat G ω H d v) (h : TEv G A Wx F (.k d) σ H Q) : tC v σ H Q := by
  obtain ⟨g, τ, ω, S, h⟩ := h
  simp only [evE] at h
  exact noTie_out h v H ω (S.push (hd ω H))
theorem peK_int {i : Int} {j pos} : PE X (.Constant (.int i) j pos) (TEv G A Wx F (.k (.int i))) := peImp pe_int fun _ _ _ => tevK fun _ _ => by unfold Dat; rfl
theorem peK_bl {b : Bool} {j pos} : PE X (.Constant (.bool b) j pos) (TEv G A Wx F (.k (.bl b))) := peImp pe_bl fun _ _ _ => tevK fun _ _ => by unfold Dat; rfl
theorem peK_non {j pos} : PE X (.Constant .none j pos) (TEv G A Wx F (.k .non)) := peImp pe_non fun _ _ _ => tevK fun _ _ => by unfold Dat; rfl
theorem peK_str {x : Str} {j pos} : PE X (.Constant (.str x) j pos) (TEv G A Wx F (.k (.str x))) := peImp pe_str fun _ _ _ => tevK fun _ _ => by unfold Dat; rfl
theorem tar_v {i : Nat} {σ : L2.St} {H : Hp} {Q : VK} (h : TAr G A Wx F (.v i) σ H Q) : tVar i σ H Q := by
  obtain ⟨g, τ, ω, S, h⟩ := h
  have h : Out (Kv G A σ τ Q) (Kx G A Wx σ τ) (lend i g) := h
  unfold lend at h
  split at h
  · rename_i d e
    obtain ⟨v, h1, h2⟩ := S.slot i _ e
    exact ⟨v, h1, h v H ω (S.push h2)⟩
  · exact h.elim
  · rename_i w ho hv e
    obtain ⟨v, ω', h1, S', _⟩ := S.take e hv
    exact ⟨v, h1, h v H ω' S'⟩
  · exact h.elim
theorem tev_v {i : Nat} {σ : L2.St} {H : Hp} {Q : VK} (h : TEv G A Wx F (.v i) σ H Q) : tVar i σ H Q := by
  obtain ⟨g, τ, ω, S, h⟩ := h
  have h := noTie_out h
  simp only [evE] at h
  unfold getS at h
  split at h
  · rename_i d e
    obtain ⟨v, h1, h2⟩ := S.slot i _ e
    exact ⟨v, h1, h v H ω (S.push h2)⟩
  · exact h.elim
  · rename_i w ho hv e
    obtain ⟨v, ω', h1, S', _⟩ := S.take e hv
    refine ⟨v, h1, h v H ω' ?_⟩
    have := S'.untie
    rwa [List.set_set] at this
  · exact h.elim
theorem peV {i : Nat} {x : Str} {pos : Pos} (hN : X.N[i]? = some x) (hv : Vis X.env.scope x) (hd : (x == ("__debug__" : Str)) = false) (hcd : (x == ("__classdict__" : Str)) = false) : PE X (.Name x pos) (TEv G A Wx F (.v i)) :=
  peImp (pe_var hN hv hd hcd) fun _ _ _ => tev_v
theorem peVa {i : Nat} {x : Str} {pos : Pos} (hN : X.N[i]? = some x) (hv : Vis X.env.scope x) (hd : (x == ("__debug__" : Str)) = false) (hcd : (x == ("__classdict__" : Str)) = false) : PE X (.Name x pos) (TAr G A Wx F (.v i)) :=
  peImp (pe_var hN hv hd hcd) fun _ _ _ => tar_v
/-- what the module's names stand for, as data -/
def GvOk (X : Cx) (G : Gm) (F : Fe) : Prop := ∀ x d, F.gv x = some d → ∃ u v, X.mg x = some u ∧ RelV v u ∧ ∀ ω H, Dat G ω H d v
theorem peG {x : Str} {d : D} {pos : Pos} (hg : Gl X x) (ok : GvOk X G F) (hx : F.gv x = some d) (hd : (x == ("__debug__" : Str)) = false) : PE X (.Name x pos) (TEv G A Wx F (.g x)) := by
  obtain ⟨u, v, h1, h2, h3⟩ := ok x d hx
  refine peImp (pe_glob hg h1 h2 hd) fun σ H Q h => ?_
  obtain ⟨g, τ, ω, S, h⟩ := h
  have h := noTie_out h
  simp only [evE, hx, ofO] at h
  exact h v H ω (S.push (h3 ω H))
/-- an argument that is no name -/
theorem peArg {e : Expr} {c : CE} (hc : ∀ g r, argOf c g r = noTie r) (h : PE X e (TEv G A Wx F c)) : PE X e (TAr G A Wx F c) := by
  refine peImp h fun σ H Q ⟨g, τ, ω, S, h⟩ => ⟨g, τ, ω, S, ?_⟩
  have e : argOf c g (evE F c g) = noTie (evE F c g) := hc _ _
  dsimp only at h
  rw [e] at h
  exact h
theorem out_items {σ : L2.St} {τ : Tm} {H : Hp} {ω : Om} {as : List (W × Option Nat)} {g : Sg} {vs : List V} {k : W → Sg → Prop} {kx : Exn → Sg → Prop} {f : List D → W} (hl : vs.length = as.length) (S : Stt G A σ g (τ ++ mkT vs as) H ω)
    (h : Out k kx (ofO (items as) fun ds => some (.ok (f ds) g))) : ∃ ds ω', Stt G A σ g τ H ω' ∧ Dats G ω' H ds vs ∧ vs.length ≤ 1000 ∧ k (f ds) g := by
  obtain ⟨ds, h1, h2⟩ := h.ofO
  unfold items at h1
  split at h1
  · rename_i hc
    obtain ⟨ω', S', D', _⟩ := S.frozen hl h1
    exact ⟨ds, ω', S', D', by rw [hl]; exact hc.2, h2⟩
  · cases h1
theorem small1k {n : Nat} (h : n ≤ 1000) : n ≤ sizeLine := Nat.le_of_lt (small1000 h)
theorem peTup {es : List Expr} {c : CA} {x1 pos} (h : PA X es (TAv G A Wx F c)) : PE X (.Tuple es x1 pos) (TEv G A Wx F (.tup c)) := by
  refine peImp (pe_tup h) fun σ H Q ⟨g, τ, ω, S, h⟩ => ⟨g, τ, ω, S, ?_⟩
  have h := noTie_out h
  simp only [evE] at h
  refine h.bind.imp (fun as g1 h => ?_) fun _ _ h => h
  intro vs H1 ω1 hl S1
  obtain ⟨ds, ω', S', D', h1, h2⟩ := out_items (f := fun ds => .val (.tup ds)) hl S1 h
  refine ⟨small1k h1, fun p hp => h2 _ _ (oset ω' p none) ?_⟩
  have gr : Grow H1 ω' (upd H1 p (.tup vs)) (oset ω' p none) := Grow.new hp
  refine (S'.grow gr).push ?_
  show Dat G _ _ (.tup ds) _
  unfold Dat
  exact ⟨p, vs, rfl, .inl ⟨.inl upd_same, oset_same⟩, Dats.mono gr.ext _ _ D'⟩
theorem peLst {es : List Expr} {c : CA} {pos} (h : PA X es (TAv G A Wx F c)) : PE X (.List es pos) (TEv G A Wx F (.lst c)) := by
  refine peImp (pe_lst h) fun σ H Q ⟨g, τ, ω, S, h⟩ => ⟨g, τ, ω, S, ?_⟩
  have h := noTie_out h
  simp only [evE] at h
  refine h.bind.imp (fun as g1 h => ?_) fun _ _ h => h
  intro vs H1 ω1 hl S1
  obtain ⟨ds, ω', S', D', h1, h2⟩ := out_items (f := fun ds => .lst ds) hl S1 h
  refine ⟨small1k h1, fun p hp => h2 _ _ (oset ω' p (some (.t τ.length))) ?_⟩
  have gr : Grow H1 ω' (upd H1 p (.lst vs)) (oset ω' p (some (.t τ.length))) := Grow.new hp
  refine (S'.grow gr).push ?_
  exact ⟨p, vs, rfl, upd_same, oset_same, Dats.mono gr.ext _ _ D'⟩
theorem truV_of {ω : Om} {H : Hp} {d : D} {v : V} {b : Bool} (hK : X.K = G.K) (h : Vd G ω H d v) (e : truth d = some b) : TruV X.K v H b := by
  rw [hK]
  cases d with
  | non => unfold Vd Dat at h; subst h; cases e; rfl
  | bl c => unfold Vd Dat at h; subst h; cases e; rfl
  | int i => unfold Vd Dat at h; subst h; cases e; rfl
  | str x =>
    unfold Vd Dat at h
    subst h
    have e : (if x.length ≤ sizeLine then some ((x.length : Int) != 0) else none) = some b := e
    by_cases hx : x.length ≤ sizeLine
    · rw [if_pos hx] at e; cases e; exact ⟨hx, rfl⟩
    · rw [if_neg hx] at e; cases e
  | tup ds =>
    unfold Vd Dat at h
    obtain ⟨a, vs, rfl, h1, h2⟩ := h
    cases e
    refine .inr (.inl ⟨vs, h1.sq, ?_⟩)
    cases ds with
    | nil => unfold Dats at h2; subst h2; rfl
    | cons d ds => unfold Dats at h2; obtain ⟨v, r, rfl, _⟩ := h2; rfl
  | lst ds =>
    obtain ⟨a, vs, rfl, h1, h2⟩ := h
    cases e
    refine .inl ⟨vs, SqL.of h1, ?_⟩
    cases ds with
    | nil => unfold Dats at h2; subst h2; rfl
    | cons d ds => unfold Dats at h2; obtain ⟨v, r, rfl, _⟩ := h2; rfl
  | ro xs => cases e
  | fn x => cases e
  | emp =>
    cases e
    unfold Vd Dat at h
    obtain ⟨a, rfl, h1, _⟩ := h
    exact .inr (.inr ⟨[], h1, rfl⟩)
  | exc0 c => cases e
  | exc1 c n x => cases e
theorem wtruth_d {w : W} {b : Bool} (h : wtruth w = some b) : ∃ d, w.d = some d ∧ truth d = some b := by
  unfold wtruth at h
  split at h
  · rename_i d e
    exact ⟨d, e, h⟩
  · cases h
theorem tts_of {c : CE} {σ : L2.St} {H : Hp} {Q : Bool → Hp → Prop} (hK : X.K = G.K) (h : TTs G A Wx F c σ H Q) : TEv G A Wx F c σ H fun x H1 => ∃ k, TruV X.K x H1 k ∧ Q k H1 := by
  obtain ⟨g, τ, ω, S, h⟩ := h
  refine ⟨g, τ, ω, S, out_noTie ?_⟩
  unfold evT at h
  refine h.bind.imp (fun w g1 h => ?_) fun _ _ h => h
  intro v H' ω' S'
  obtain ⟨b, h1, h2⟩ := h.ofO
  obtain ⟨d, h3, h4⟩ := wtruth_d h1
  exact ⟨b, truV_of hK (S'.last.1.vd h3) h4, h2 H' ω' S'.less⟩
theorem ptTru {e : Expr} {c : CE} (hK : X.K = G.K) (h : PE X e (TEv G A Wx F c)) (he : ∀ whole, isTrue e X.env whole = (do let v ← whole; standAt e.pos; holding [v] (truthy v))) : PT X e (TTs G A Wx F c) :=
  ptImp (pt_truth h he) fun _ _ _ => tts_of hK
theorem evT_and {a b : CE} {g : Sg} : evT F (.and a b) g = bR (evT F a g) fun t g1 => match t with
    | true => evT F b g1
    | false => some (.ok false g1) := by
  unfold evT
  simp only [evE]
  cases evE F a g with
  | none => rfl
  | some r =>
    cases r with
    | exc e g1 => rfl
    | ok w g1 =>
      simp only [bR, testW]
      cases hw : wtruth w with
      | none => rfl
      | some t => cases t <;> simp [ofO, hw]
theorem evT_or {a b : CE} {g : Sg} : evT F (.or a b) g = bR (evT F a g) fun t g1 => match t with
    | false => evT F b g1
    | true => some (.ok true g1) := by
  unfold evT
  simp only [evE]
  cases evE F a g with
  | none => rfl
  | some r =>
    cases r with
    | exc e g1 => rfl
    | ok w g1 =>
      simp only [bR, testW]
      cases hw : wtruth w with
      | none => rfl
      | some t => cases t <;> simp [ofO, hw]
theorem evT_not {a : CE} {g : Sg} : evT F (.not a) g = bR (evT F a g) fun t g1 => some (.ok (!t) g1) := by
  unfold evT
  simp only [evE]
  cases evE F a g with
  | none => rfl
  | some r =>
    cases r with
    | exc e g1 => rfl
    | ok w g1 =>
      simp only [bR, testW]
      cases hw : wtruth w with
      | none => rfl
      | some t => rfl
theorem pwAnd {a b : Expr} {rest : List Expr} {pos : Pos} {ca cb : CE} (ha : PT X a (TTs G A Wx F ca)) (hb : PW X (.BoolOp .And (b :: rest) pos) (TTs G A Wx F cb)) : PW X (.BoolOp .And (a :: b :: rest) pos) (TTs G A Wx F (.and ca cb)) := by
  refine pwImp (pw_and ha hb) fun σ H Q ⟨g, τ, ω, S, h⟩ => ⟨g, τ, ω, S, ?_⟩
  rw [evT_and] at h
  refine h.bind.imp (fun t g1 h H' ω' S' => ?_) fun _ _ h => h
  cases t with
  | true => exact ⟨g1, τ, ω', S', h⟩
  | false => exact h H' ω' S'
theorem pwOr {a b : Expr} {rest : List Expr} {pos : Pos} {ca cb : CE} (ha : PT X a (TTs G A Wx F ca)) (hb : PW X (.BoolOp .Or (b :: rest) pos) (TTs G A Wx F cb)) : PW X (.BoolOp .Or (a :: b :: rest) pos) (TTs G A Wx F (.or ca cb)) := by
  refine pwImp (pw_or ha hb) fun σ H Q ⟨g, τ, ω, S, h⟩ => ⟨g, τ, ω, S, ?_⟩
  rw [evT_or] at h
  refine h.bind.imp (fun t g1 h H' ω' S' => ?_) fun _ _ h => h
  cases t with
  | false => exact ⟨g1, τ, ω', S', h⟩
  | true => exact h H' ω' S'
theorem ptNot {a : Expr} {pos : Pos} {ca : CE} (ha : PT X a (TTs G A Wx F ca)) : PT X (.UnaryOp .Not a pos) (TTs G A Wx F (.not ca)) := by
  refine ptImp (pt_not ha) fun σ H Q ⟨g, τ, ω, S, h⟩ => ⟨g, τ, ω, S, ?_⟩
  rw [evT_not] at h
  exact h.bind.imp (fun t g1 h H' ω' S' => h H' ω' S') fun _ _ h => h
theorem testW_out {k : W → Sg → Prop} {kx : Exn → Sg → Prop} {w : W} {g : Sg} {f : Bool → Option (ER W)} (h : Out k kx (testW w g f)) : ∃ b d, w.d = some d ∧ truth d = some b ∧ Out k kx (f b) := by
  unfold testW at h
  split at h
  · rename_i b e
    obtain ⟨d, h1, h2⟩ := wtruth_d e
    exact ⟨b, d, h1, h2, h⟩
  · exact h.elim
theorem peAnd {a b : Expr} {rest : List Expr} {pos : Pos} {ca cb : CE} (hK : X.K = G.K) (ha : PE X a (TEv G A Wx F ca)) (hb : PE X (.BoolOp .And (b :: rest) pos) (TEv G A Wx F cb)) : PE X (.BoolOp .And (a :: b :: rest) pos) (TEv G A Wx F (.and ca cb)) := by
  refine peImp (pe_andT ha hb) fun σ H Q ⟨g, τ, ω, S, h⟩ => ⟨g, τ, ω, S, out_noTie ?_⟩
  have h := noTie_out h
  simp only [evE] at h
  refine h.bind.imp (fun w g1 h => ?_) fun _ _ h => h
  intro v H' ω' S'
  obtain ⟨b, d, h1, h2, h3⟩ := testW_out h
  refine ⟨b, truV_of hK (S'.last.1.vd h1) h2, ?_⟩
  cases b with
  | true => rw [if_pos rfl]; exact ⟨g1, τ, ω', S'.less, out_noTie h3⟩
  | false => rw [if_neg (by decide)]; exact h3 v H' ω' S'
theorem peOr {a b : Expr} {rest : List Expr} {pos : Pos} {ca cb : CE} (hK : X.K = G.K) (ha : PE X a (TEv G A Wx F ca)) (hb : PE X (.BoolOp .Or (b :: rest) pos) (TEv G A Wx F cb)) : PE X (.BoolOp .Or (a :: b :: rest) pos) (TEv G A Wx F (.or ca cb)) := by
  refine peImp (pe_orT ha hb) fun σ H Q ⟨g, τ, ω, S, h⟩ => ⟨g, τ, ω, S, out_noTie ?_⟩
  have h := noTie_out h
  simp only [evE] at h
  refine h.bind.imp (fun w g1 h => ?_) fun _ _ h => h
  intro v H' ω' S'
  obtain ⟨b, d, h1, h2, h3⟩ := testW_out h
  refine ⟨b, truV_of hK (S'.last.1.vd h1) h2, ?_⟩
  cases b with
  | false => rw [if_neg (by decide)]; exact ⟨g1, τ, ω', S'.less, out_noTie h3⟩
  | true => rw [if_pos rfl]; exact h3 v H' ω' S'
theorem peNot {a : Expr} {pos : Pos} {ca : CE} (hK : X.K = G.K) (ha : PE X a (TEv G A Wx F ca)) : PE X (.UnaryOp .Not a pos) (TEv G A Wx F (.not ca)) := by
  refine peImp (pe_notT ha) fun σ H Q ⟨g, τ, ω, S, h⟩ => ⟨g, τ, ω, S, out_noTie ?_⟩
  have h := noTie_out h
  simp only [evE] at h
  refine h.bind.imp (fun w g1 h => ?_) fun _ _ h => h
  intro v H' ω' S'
  obtain ⟨b, d, h1, h2, h3⟩ := testW_out h
  exact ⟨b, truV_of hK (S'.last.1.vd h1) h2, h3 _ H' ω' (S'.less.push (show Dat G ω' H' (.bl !b) _ by unfold Dat; rfl))⟩
theorem peIf {c a b : Expr} {pos : Pos} {cc ca cb : CE} (hc : PT X c (TTs G A Wx F cc)) (ha : PE X a (TEv G A Wx F ca)) (hb : PE X b (TEv G A Wx F cb)) : PE X (.IfExp c a b pos) (TEv G A Wx F (.ite cc ca cb)) := by
  refine peImp (pe_ifExp hc ha hb) fun σ H Q ⟨g, τ, ω, S, h⟩ => ⟨g, τ, ω, S, ?_⟩
  have h := noTie_out h
  simp only [evE] at h
  have e : evT F cc g = bR (evE F cc g) fun w g1 => ofO (wtruth w) fun b => some (.ok b g1) := rfl
  rw [e]
  cases hm : evE F cc g with
  | none => rw [hm] at h; exact h
  | some r =>
    rw [hm] at h
    cases r with
    | exc e g1 => exact h
    | ok w g1 =>
      obtain ⟨b, d, h1, h2, h3⟩ := testW_out (g := g1) h
      have hw : wtruth w = some b := by unfold wtruth; rw [h1]; exact h2
      show Out _ _ (ofO (wtruth w) fun b => some (.ok b g1))
      rw [hw]
      intro H' ω' S'
      cases b with
      | true => rw [if_pos rfl]; exact ⟨g1, τ, ω', S', out_noTie h3⟩
      | false => rw [if_neg (by decide)]; exact ⟨g1, τ, ω', S', out_noTie h3⟩
end
end Ev

set_option Elab.async false
set_option linter.all false
set_option maxRecDepth 100000
set_option maxHeartbeats 4000000
namespace Ev
open PySem PySem.Spec PyProof.Rows L2
section
variable {G : Gm} {ω : Om} {H : Hp} {o : Own} {Q : VK}
abbrev Qw (G : Gm) (ω : Om) (H : Hp) (o : Own) (w : W) (Q : VK) : Prop := ∀ v H' ω', Grow H ω H' ω' → EntW G ω' H' o w v → Q v H'
theorem q_val {d : D} {v : V} (q : Qw G ω H o (.val d) Q) (h : Dat G ω H d v) : Q v H := q v H ω (Grow.refl _ _) h
theorem q_int {i : Int} (q : Qw G ω H o (.val (.int i)) Q) : Q (.int i) H := q_val q (by unfold Dat; rfl)
theorem q_bl {i : Bool} (q : Qw G ω H o (.val (.bl i)) Q) : Q (.bl i) H := q_val q (by unfold Dat; rfl)
theorem q_str {i : Str} (q : Qw G ω H o (.val (.str i)) Q) : Q (.str i) H := q_val q (by unfold Dat; rfl)
theorem q_tup {ds : List D} {vs : List V} (q : Qw G ω H o (.val (.tup ds)) Q) (h : Dats G ω H ds vs) : ∀ p, H p = none → Q (.ref p) (upd H p (.tup vs)) := fun p hp => by
  refine q _ _ (oset ω p none) (Grow.new hp) ?_
  show Dat G _ _ (.tup ds) _
  unfold Dat
  exact ⟨p, vs, rfl, .inl ⟨.inl upd_same, oset_same⟩, Dats.mono (Grow.new hp).ext _ _ h⟩
theorem q_lst {ds : List D} {vs : List V} (q : Qw G ω H o (.lst ds) Q) (h : Dats G ω H ds vs) : ∀ p, H p = none → Q (.ref p) (upd H p (.lst vs)) := fun p hp => by
  refine q _ _ (oset ω p (some o)) (Grow.new hp) ?_
  exact ⟨p, vs, rfl, upd_same, oset_same, Dats.mono (Grow.new hp).ext _ _ h⟩
theorem vds1 {ds : List D} {x : V} (h : Vds G ω H ds [x]) : ∃ d, ds = [d] ∧ Vd G ω H d x := by
  cases ds with
  | nil => cases h
  | cons d r =>
    obtain ⟨v, l, e, h1, h2⟩ := h
    injection e with e1 e2
    subst e1
    subst e2
    cases r with
    | nil => exact ⟨d, rfl, h1⟩
    | cons d' r' => obtain ⟨_, _, e, _⟩ := h2; cases e
theorem vds2 {ds : List D} {x y : V} (h : Vds G ω H ds [x, y]) : ∃ d e, ds = [d, e] ∧ Vd G ω H d x ∧ Vd G ω H e y := by
  cases ds with
  | nil => cases h
  | cons d r =>
    obtain ⟨v, l, e, h1, h2⟩ := h
    injection e with e1 e2
    subst e1
    subst e2
    obtain ⟨e, rfl, h3⟩ := vds1 h2
    exact ⟨d, e, rfl, h1, h3⟩
theorem vds_len : ∀ {ds : List D} {vs : List V}, Vds G ω H ds vs → ds.length = vs.length
  | [], vs, h => by have h : vs = [] := h; subst h; rfl
  | d :: ds, vs, h => by
    obtain ⟨v, r, rfl, _, h2⟩ := h
    simp [vds_len h2]
theorem vdI {i : Int} {x : V} (h : Vd G ω H (.int i) x) : x = .int i := by unfold Vd Dat at h; exact h
theorem vdB {i : Bool} {x : V} (h : Vd G ω H (.bl i) x) : x = .bl i := by unfold Vd Dat at h; exact h
theorem vdS {i : Str} {x : V} (h : Vd G ω H (.str i) x) : x = .str i := by unfold Vd Dat at h; exact h
theorem vdN {x : V} (h : Vd G ω H .non x) : x = .non := by unfold Vd Dat at h; exact h
theorem vdT {ds : List D} {x : V} (h : Vd G ω H (.tup ds) x) : ∃ a vs, x = .ref a ∧ SqT G.K H a vs ∧ Dats G ω H ds vs ∧ Dat G ω H (.tup ds) x := by
  have h' := h
  unfold Vd Dat at h
  obtain ⟨a, vs, rfl, h1, h2⟩ := h
  exact ⟨a, vs, rfl, h1.sq, h2, h'⟩
theorem vdL {ds : List D} {x : V} (h : Vd G ω H (.lst ds) x) : ∃ a vs, x = .ref a ∧ H a = some (.lst vs) ∧ Dats G ω H ds vs := h
theorem vdR {ds : List D} {x : V} (h : Vd G ω H (.ro ds) x) : ∃ a vs, x = .ref a ∧ SqL G.K H a vs ∧ Dats G ω H ds vs := by
  unfold Vd Dat at h
  obtain ⟨a, vs, rfl, h1, h2⟩ := h
  exact ⟨a, vs, rfl, h1.sq, h2⟩
end
theorem vdSome {d : D} {w : W} (h : vd d = some w) : w = .val d := (Option.some.inj h).symm
theorem viSome {i : Int} {w : W} (h : vi i = some w) : w = .val (.int i) := (Option.some.inj h).symm
theorem vbSome {i : Bool} {w : W} (h : vb i = some w) : w = .val (.bl i) := (Option.some.inj h).symm
theorem ifSome {α : Type} {c : Prop} [Decidable c] {x : Option α} {w : α} (h : (if c then x else none) = some w) : c ∧ x = some w := by
  by_cases hc : c
  · rw [if_pos hc] at h; exact ⟨hc, h⟩
  · rw [if_neg hc] at h; cases h
section
variable {G : Gm} {X : Cx}
theorem opAdd (hK : X.K = G.K) : OpR X (binaryOp .Add) (r2 G .add) := by
  intro pins s σ H x y v u Q I rx ry ⟨o, ω, ds, w, hv, hp, q⟩
  obtain ⟨d, e, rfl, h1, h2⟩ := vds2 hv
  cases d with
  | int i => cases e with
    | int j =>
      have := viSome hp; subst this
      cases vdI h1; cases vdI h2
      exact op_add pins s σ H _ _ v u Q I rx ry ⟨i, j, rfl, rfl, q_int q⟩
    | _ => exact nomatch (show (none : Option W) = some w from hp)
  | str i => cases e with
    | str j =>
      obtain ⟨hz, hp⟩ := ifSome (show (if i.length + j.length ≤ sizeLine then vd (.str (i ++ j)) else none) = some w from hp)
      have := vdSome hp; subst this
      cases vdS h1; cases vdS h2
      exact op_add_str pins s σ H _ _ v u Q I rx ry ⟨i, j, rfl, rfl, hz, q_str q⟩
    | _ => exact nomatch (show (none : Option W) = some w from hp)
  | lst i => cases e with
    | lst j =>
      obtain ⟨hz, hp⟩ := ifSome (show (if i.length + j.length ≤ sizeLine then some (W.lst (i ++ j)) else none) = some w from hp)
      cases hp
      obtain ⟨a, vs, rfl, h3, h4⟩ := vdL h1
      obtain ⟨b, us, rfl, h5, h6⟩ := vdL h2
      exact op_cat pins s σ H _ _ v u Q I rx ry ⟨a, b, vs, us, rfl, rfl, h3, h5, by rw [← h4.length, ← h6.length]; exact hz, q_lst q (h4.append h6)⟩
    | _ => exact nomatch (show (none : Option W) = some w from hp)
  | tup i => cases e with
    | tup j =>
      obtain ⟨hz, hp⟩ := ifSome (show (if i.length + j.length ≤ sizeLine then vd (.tup (i ++ j)) else none) = some w from hp)
      have := vdSome hp; subst this
      obtain ⟨a, vs, rfl, h3, h4, h1'⟩ := vdT h1
      obtain ⟨b, us, rfl, h5, h6, h2'⟩ := vdT h2
      refine op_catA pins s σ H _ _ v u Q I rx ry ⟨a, b, vs, us, rfl, rfl, by rw [hK]; exact h3, by rw [hK]; exact h5, by rw [← h4.length, ← h6.length]; exact hz, fun e => ?_, fun _ e => ?_, fun _ _ => q_tup q (h4.append h6)⟩
      · have := h4.length
        rw [e] at this
        have e0 : i = [] := List.length_eq_zero_iff.mp this
        subst e0
        exact q_val q h2'
      · have := h6.length
        rw [e] at this
        have e0 : j = [] := List.length_eq_zero_iff.mp this
        subst e0
        rw [List.append_nil] at q
        exact q_val q h1'
    | _ => exact nomatch (show (none : Option W) = some w from hp)
  | _ => exact nomatch (show (none : Option W) = some w from hp)
theorem opSub : OpR X (binaryOp .Sub) (r2 G .sub) := by
  intro pins s σ H x y v u Q I rx ry ⟨o, ω, ds, w, hv, hp, q⟩
  obtain ⟨d, e, rfl, h1, h2⟩ := vds2 hv
  cases d with
  | int i => cases e with
    | int j =>
      have := viSome hp; subst this
      cases vdI h1; cases vdI h2
      exact op_sub pins s σ H _ _ v u Q I rx ry ⟨i, j, rfl, rfl, q_int q⟩
    | _ => exact nomatch (show (none : Option W) = some w from hp)
  | _ => exact nomatch (show (none : Option W) = some w from hp)
theorem flatten_rep {α : Type} (x : α) : ∀ n : Nat, (List.replicate n [x]).flatten = List.replicate n x
  | 0 => rfl
  | n + 1 => by rw [List.replicate_succ, List.flatten_cons, flatten_rep x n]; rfl
theorem dats_rep {ω : Om} {H : Hp} {d : D} {v : V} (h : Dat G ω H d v) : ∀ n : Nat, Dats G ω H (List.replicate n d) (List.replicate n v)
  | 0 => Dats.nil
  | n + 1 => Dats.cons h (dats_rep h n)
theorem dats_flat {G : Gm} {ω : Om} {H : Hp} {ds : List D} {vs : List V} (h : Dats G ω H ds vs) : ∀ n : Nat, Dats G ω H (List.replicate n ds).flatten (List.replicate n vs).flatten
  | 0 => Dats.nil
  | n + 1 => by
    rw [List.replicate_succ, List.replicate_succ, List.flatten_cons, List.flatten_cons]
    exact h.append (dats_flat h n)
theorem okMul.ok {i j : Int} (h : okMul i j) : IntMulOk i j := by
  have b : ∀ x : Int, Builtin.Int.intBits x ≤ x.natAbs.log2 + 1 := fun x => by
    unfold Builtin.Int.intBits
    split <;> omega
  have h1 := b i
  have h2 := b j
  have h3 : i.natAbs.log2 + j.natAbs.log2 < 100000000 := h
  have e : bitsLine = 134217728 := by decide
  unfold IntMulOk
  intro z
  have z3 := (Bool.and_eq_true_iff.mp z).2
  unfold Builtin.Int.intTooBig at z3
  have z4 := of_decide_eq_true z3
  rw [e] at z4
  omega
theorem op_mulX : OpR X (binaryOp .Mult) (rI okMul fun i j => .int (i * j)) := opI fun _ _ _ _ _ _ _ hc q => mul_int q hc.ok
theorem opMul (hK : X.K = G.K) : OpR X (binaryOp .Mult) (r2 G .mul) := by
  intro pins s σ H x y v u Q I rx ry ⟨o, ω, ds, w, hv, hp, q⟩
  obtain ⟨d, e, rfl, h1, h2⟩ := vds2 hv
  cases d with
  | int i => cases e with
    | int j =>
      obtain ⟨hz, hp⟩ := ifSome (show (if okMul i j then vi (i * j) else none) = some w from hp)
      have := viSome hp; subst this
      cases vdI h1; cases vdI h2
      exact op_mulX pins s σ H _ _ v u Q I rx ry ⟨i, j, rfl, rfl, hz, q_int q⟩
    | _ => exact nomatch (show (none : Option W) = some w from hp)
  | tup i => cases e with
    | int j =>
      obtain ⟨⟨z1, z2, z3, z4⟩, hp⟩ := ifSome (show (if 2 ≤ j ∧ j < 1000 ∧ 1 ≤ i.length ∧ i.length ≤ 1000 then vd (.tup (List.replicate j.toNat i).flatten) else none) = some w from hp)
      have := vdSome hp; subst this
      obtain ⟨a, vs, rfl, h3, h4, h1'⟩ := vdT h1
      cases vdI h2
      have hlen := h4.length
      refine op_repT pins s σ H _ _ v u Q I rx ry ⟨a, j, vs, rfl, rfl, by rw [hK]; exact h3, fun e => ?_, z1, by omega, by omega, fun p hp => ?_⟩
      · rw [e, List.length_nil] at hlen
        omega
      · exact q_tup q (dats_flat h4 _) p hp
    | _ => exact nomatch (show (none : Option W) = some w from hp)
  | lst i => cases e with
    | int j =>
      obtain ⟨⟨z1, z2, z3⟩, hp⟩ := ifSome (show (if 0 ≤ j ∧ j < 1000 ∧ i.length = 1 then some (W.lst (List.replicate j.toNat (i.getD 0 .non))) else none) = some w from hp)
      cases hp
      obtain ⟨a, vs, rfl, h3, h4⟩ := vdL h1
      cases vdI h2
      obtain ⟨d0, rfl⟩ : ∃ d0, i = [d0] := by
        match i, z3 with
        | [d0], _ => exact ⟨d0, rfl⟩
      unfold Dats at h4
      obtain ⟨v0, r, rfl, h5, h6⟩ := h4
      unfold Dats at h6
      subst h6
      refine op_rep pins s σ H _ _ v u Q I rx ry ⟨a, j, [v0], rfl, rfl, h3, by omega, by omega, by show 1 * j.toNat ≤ sizeLine; rw [sizeLine_eq]; omega, fun p hp => ?_⟩
      rw [flatten_rep]
      exact q_lst q (dats_rep h5 _) p hp
    | _ => exact nomatch (show (none : Option W) = some w from hp)
  | _ => exact nomatch (show (none : Option W) = some w from hp)
theorem opFdiv : OpR X (binaryOp .FloorDiv) (r2 G .fdiv) := by
  intro pins s σ H x y v u Q I rx ry ⟨o, ω, ds, w, hv, hp, q⟩
  obtain ⟨d, e, rfl, h1, h2⟩ := vds2 hv
  cases d with
  | int i => cases e with
    | int j =>
      obtain ⟨hz, hp⟩ := ifSome (show (if okDiv j then vi (i.fdiv j) else none) = some w from hp)
      have := viSome hp; subst this
      cases vdI h1; cases vdI h2
      obtain ⟨t, rfl⟩ := rx
      obtain ⟨t', rfl⟩ := ry
      exact floordiv_int hz.1 ⟨.int _, H, I.tok _, ⟨_, rfl⟩, q_int q⟩ (.inl (PyProof.noPylong_of_log2 hz.2))
    | _ => exact nomatch (show (none : Option W) = some w from hp)
  | _ => exact nomatch (show (none : Option W) = some w from hp)
theorem opMod : OpR X (binaryOp .Mod) (r2 G .mod) := by
  intro pins s σ H x y v u Q I rx ry ⟨o, ω, ds, w, hv, hp, q⟩
  obtain ⟨d, e, rfl, h1, h2⟩ := vds2 hv
  cases d with
  | int i => cases e with
    | int j =>
      obtain ⟨hz, hp⟩ := ifSome (show (if j ≠ 0 then vi (i.fmod j) else none) = some w from hp)
      have := viSome hp; subst this
      cases vdI h1; cases vdI h2
      exact op_modN pins s σ H _ _ v u Q I rx ry ⟨i, j, rfl, rfl, hz, q_int q⟩
    | _ => exact nomatch (show (none : Option W) = some w from hp)
  | _ => exact nomatch (show (none : Option W) = some w from hp)
theorem opPow : OpR X (binaryOp .Pow) (r2 G .pow) := by
  intro pins s σ H x y v u Q I rx ry ⟨o, ω, ds, w, hv, hp, q⟩
  obtain ⟨d, e, rfl, h1, h2⟩ := vds2 hv
  cases d with
  | int i => cases e with
    | int j =>
      obtain ⟨hz, hp⟩ := ifSome (show (if okPow i j then vi (i ^ j.toNat) else none) = some w from hp)
      have := viSome hp; subst this
      cases vdI h1; cases vdI h2
      exact op_pow pins s σ H _ _ v u Q I rx ry ⟨i, j, rfl, rfl, hz, q_int q⟩
    | _ => exact nomatch (show (none : Option W) = some w from hp)
  | _ => exact nomatch (show (none : Option W) = some w from hp)
theorem opNeg : UnR X (unaryOp .USub) (r1 G .neg) := by
  intro pins s σ H x v Q I rx ⟨o, ω, ds, w, hv, hp, q⟩
  obtain ⟨d, rfl, h1⟩ := vds1 hv
  cases d with
  | int i =>
    have := viSome hp; subst this
    cases vdI h1
    exact un_neg pins s σ H _ v Q I rx ⟨i, rfl, q_int q⟩
  | _ => exact nomatch (show (none : Option W) = some w from hp)
/-- a comparison of ints -/
theorem opCmpI {op : CmpOp} {p : P} {f : Int → Int → Bool} (hp0 : ∀ a b, prim p [a, b] = pLt f a b) (ho : OpR X (compareOp op) (rI0 fun i j => .bl (f i j))) : OpR X (compareOp op) (r2 G p) := by
  intro pins s σ H x y v u Q I rx ry ⟨o, ω, ds, w, hv, hp, q⟩
  obtain ⟨d, e, rfl, h1, h2⟩ := vds2 hv
  rw [hp0] at hp
  cases d with
  | int i => cases e with
    | int j =>
      have := vbSome hp; subst this
      cases vdI h1; cases vdI h2
      exact ho pins s σ H _ _ v u Q I rx ry ⟨i, j, rfl, rfl, q_bl q⟩
    | _ => exact nomatch (show (none : Option W) = some w from hp)
  | _ => exact nomatch (show (none : Option W) = some w from hp)
theorem opLt : OpR X (compareOp .Lt) (r2 G .lt) := opCmpI (f := fun i j => decide (i < j)) (fun _ _ => rfl) op_lt
theorem opLe : OpR X (compareOp .LtE) (r2 G .le) := opCmpI (f := fun i j => decide (i ≤ j)) (fun _ _ => rfl) op_le
theorem opGt : OpR X (compareOp .Gt) (r2 G .gt) := opCmpI (f := fun i j => decide (j < i)) (fun _ _ => rfl) op_gt
theorem opGe : OpR X (compareOp .GtE) (r2 G .ge) := opCmpI (f := fun i j => decide (j ≤ i)) (fun _ _ => rfl) op_ge
mutual
theorem dpOf {ω : Om} {H : Hp} (hK : X.K = G.K) : ∀ (d : D) (v : V) (p : PyData), Dat G ω H d v → d.toP = some p → Dp X.K H v p
  | .non, v, p, h, e => by unfold Dat at h; subst h; cases e; exact .non
  | .bl b, v, p, h, e => by unfold Dat at h; subst h; cases e; exact .bl b
  | .int i, v, p, h, e => by unfold Dat at h; subst h; cases e; exact .int i
  | .str x, v, p, h, e => by unfold Dat at h; subst h; cases e; exact .str x
  | .tup ds, v, p, h, e => by
    unfold Dat at h
    obtain ⟨a, vs, rfl, h1, h2⟩ := h
    unfold D.toP at e
    cases e2 : D.toPs ds with
    | none => rw [e2] at e; cases e
    | some ps => rw [e2] at e; cases e; exact .tup (by rw [hK]; exact h1.sq) (dpsOf hK ds vs ps h2 e2)
  | .lst ds, v, p, h, e => by
    unfold Dat at h
    obtain ⟨a, vs, rfl, h1, h2⟩ := h
    unfold D.toP at e
    cases e2 : D.toPs ds with
    | none => rw [e2] at e; cases e
    | some ps => rw [e2] at e; cases e; exact .lst (SqL.of h1.1) (dpsOf hK ds vs ps h2 e2)
  | .ro ds, v, p, h, e => by cases e
  | .fn x, v, p, h, e => by cases e
  | .emp, v, p, h, e => by cases e
  | .exc0 c, v, p, h, e => by cases e
  | .exc1 c n x, v, p, h, e => by cases e
theorem dpsOf {ω : Om} {H : Hp} (hK : X.K = G.K) : ∀ (ds : List D) (vs : List V) (ps : List PyData), Dats G ω H ds vs → D.toPs ds = some ps → DpAll X.K H vs ps
  | [], vs, ps, h, e => by unfold Dats at h; subst h; cases e; exact .nil
  | d :: ds, vs, ps, h, e => by
    unfold Dats at h
    obtain ⟨v, r, rfl, h1, h2⟩ := h
    unfold D.toPs at e
    cases e1 : d.toP with
    | none => rw [e1] at e; cases e
    | some p =>
      cases e2 : D.toPs ds with
      | none => rw [e1, e2] at e; cases e
      | some q => rw [e1, e2] at e; cases e; exact .cons (dpOf hK d v p h1 e1) (dpsOf hK ds r q h2 e2)
end
theorem dpVd {ω : Om} {H : Hp} (hK : X.K = G.K) {d : D} {v : V} {p : PyData} (h : Vd G ω H d v) (e : d.toP = some p) : Dp X.K H v p := by
  cases d with
  | lst ds =>
    obtain ⟨a, vs, rfl, h1, h2⟩ := vdL h
    unfold D.toP at e
    cases e2 : D.toPs ds with
    | none => rw [e2] at e; cases e
    | some ps => rw [e2] at e; cases e; exact .lst (SqL.of h1) (dpsOf hK ds vs ps h2 e2)
  | _ => exact dpOf hK _ v p h e
theorem eqD_some {a b : D} {r : Bool} (h : eqD a b = some r) : ∃ p q, a.toP = some p ∧ b.toP = some q ∧ SeqAt.shaped p = true ∧ SeqAt.shaped q = true ∧ r = PyData.eqv p q := by
  unfold eqD at h
  cases ha : a.toP with
  | none => rw [ha] at h; cases h
  | some p =>
    cases hb : b.toP with
    | none => rw [ha, hb] at h; cases h
    | some q =>
      rw [ha, hb] at h
      obtain ⟨hc, h⟩ := ifSome (show (if SeqAt.shaped p = true ∧ SeqAt.shaped q = true then some (PyData.eqv p q) else none) = some r from h)
      exact ⟨p, q, rfl, rfl, hc.1, hc.2, (Option.some.inj h).symm⟩
theorem ofB_some {o : Option Bool} {w : W} (h : ofB o = some w) : ∃ b, o = some b ∧ w = .val (.bl b) := by
  cases o with
  | none => cases h
  | some b => exact ⟨b, rfl, (Option.some.inj h).symm⟩
theorem opIsb : OpR X (compareOp .Is) (r2 G .isb) := by
  intro pins s σ H x y v u Q I rx ry ⟨o, ω, ds, w, hv, hp, q⟩
  obtain ⟨d, e, rfl, h1, h2⟩ := vds2 hv
  have hp : pIsb d e = some w := hp
  cases d with
  | bl a => cases e with
    | bl b =>
      have := vbSome hp; subst this
      cases vdB h1; cases vdB h2
      exact op_isBl pins s σ H _ _ v u Q I rx ry ⟨a, b, rfl, rfl, q_bl q⟩
    | _ => cases hp
  | _ => cases hp
theorem opIsnb : OpR X (compareOp .IsNot) (r2 G .isnb) := by
  intro pins s σ H x y v u Q I rx ry ⟨o, ω, ds, w, hv, hp, q⟩
  obtain ⟨d, e, rfl, h1, h2⟩ := vds2 hv
  have hp : pIsnb d e = some w := hp
  cases d with
  | bl a => cases e with
    | bl b =>
      have := vbSome hp; subst this
      cases vdB h1; cases vdB h2
      exact op_notBl pins s σ H _ _ v u Q I rx ry ⟨a, b, rfl, rfl, q_bl q⟩
    | _ => cases hp
  | _ => cases hp
theorem opEq (hK : X.K = G.K) (hu : X.A.units + 64 < cLine) : OpR X (compareOp .Eq) (r2 G .eq) := by
  intro pins s σ H x y v u Q I rx ry ⟨o, ω, ds, w, hv, hp, q⟩
  obtain ⟨d, e, rfl, h1, h2⟩ := vds2 hv
  obtain ⟨b, hb, rfl⟩ := ofB_some (show ofB (eqD d e) = some w from hp)
  obtain ⟨p1, p2, e1, e2, s1, s2, rfl⟩ := eqD_some hb
  exact op_eqD hu pins s σ H _ _ v u Q I rx ry ⟨p1, p2, dpVd hK h1 e1, dpVd hK h2 e2, s1, s2, q_bl q⟩
theorem opNe (hK : X.K = G.K) (hu : X.A.units + 64 < cLine) : OpR X (compareOp .NotEq) (r2 G .ne) := by
  intro pins s σ H x y v u Q I rx ry ⟨o, ω, ds, w, hv, hp, q⟩
  obtain ⟨d, e, rfl, h1, h2⟩ := vds2 hv
  obtain ⟨b, hb, rfl⟩ := ofB_some (show ofB ((eqD d e).map (!·)) = some w from hp)
  cases hb0 : eqD d e with
  | none => rw [hb0] at hb; cases hb
  | some c =>
    rw [hb0] at hb
    have : b = !c := (Option.some.inj hb).symm
    subst this
    obtain ⟨p1, p2, e1, e2, s1, s2, rfl⟩ := eqD_some hb0
    exact op_neD hu pins s σ H _ _ v u Q I rx ry ⟨p1, p2, dpVd hK h1 e1, dpVd hK h2 e2, s1, s2, q_bl q⟩
theorem vd_non {ω : Om} {H : Hp} {d : D} {v : V} (h : Vd G ω H d v) : decide (v = .non) = isNon d := by
  cases d with
  | non => cases vdN h; rfl
  | bl b => cases vdB h; rfl
  | int i => cases vdI h; rfl
  | str x => cases vdS h; rfl
  | tup ds => obtain ⟨a, vs, rfl, _⟩ := vdT h; rfl
  | lst ds => obtain ⟨a, vs, rfl, _⟩ := vdL h; rfl
  | ro ds => obtain ⟨a, vs, rfl, _⟩ := vdR h; rfl
  | fn x => unfold Vd Dat at h; obtain ⟨a, rfl, _⟩ := h; rfl
  | emp => unfold Vd Dat at h; obtain ⟨a, rfl, _⟩ := h; rfl
  | exc0 c => unfold Vd Dat at h; obtain ⟨a, C, rfl, _⟩ := h; rfl
  | exc1 c n x => unfold Vd Dat at h; obtain ⟨a, C, dd, u, rfl, _⟩ := h; rfl
theorem pcIsN {a : Expr} {ca : CE} {pos pos' : Pos} {j} {A : Amb} {Wx : WX} {F : Fe} (ha : PE X a (TAr G A Wx F ca)) : PE X (.Compare a [.Is] [.Constant .none j pos'] pos) (TEv G A Wx F (.prim .isN (.cons ca .nil))) :=
  peImp (pe_cmp (pc_isN ha)) fun σ H Q h => tas_one (prim_end h) fun x H1 ⟨o, ω, ds, w, hv, hp, q⟩ => by
    obtain ⟨d, rfl, h1⟩ := vds1 hv
    have e := vbSome (show vb (isNon d) = some w from hp)
    subst e
    rw [vd_non h1]
    exact q_bl q
theorem pcNotN {a : Expr} {ca : CE} {pos pos' : Pos} {j} {A : Amb} {Wx : WX} {F : Fe} (ha : PE X a (TAr G A Wx F ca)) : PE X (.Compare a [.IsNot] [.Constant .none j pos'] pos) (TEv G A Wx F (.prim .isnotN (.cons ca .nil))) :=
  peImp (pe_cmp (pc_notN ha)) fun σ H Q h => tas_one (prim_end h) fun x H1 ⟨o, ω, ds, w, hv, hp, q⟩ => by
    obtain ⟨d, rfl, h1⟩ := vds1 hv
    have e := vbSome (show vb (!isNon d) = some w from hp)
    subst e
    rw [vd_non h1]
    exact q_bl q
theorem vals1' {ω : Om} {H : Hp} {xs : List V} {p : P} {ds : List D} {w : W} (h2 : ∀ a b, prim2 p a b = none) (h3 : ∀ a b c, prim3 p a b c = none) (hv : Vds G ω H ds xs) (hp : prim p ds = some w) :
    ∃ x d, xs = [x] ∧ ds = [d] ∧ Vd G ω H d x ∧ prim1 p d = some w := by
  cases ds with
  | nil => cases hp
  | cons d r =>
    cases r with
    | nil =>
      obtain ⟨v, l, rfl, h4, h5⟩ := hv
      have h5 : l = [] := h5
      subst h5
      exact ⟨v, d, rfl, rfl, h4, hp⟩
    | cons e r =>
      cases r with
      | nil => have hp : prim2 p d e = some w := hp; rw [h2] at hp; cases hp
      | cons f r => cases r with
        | nil => have hp : prim3 p d e f = some w := hp; rw [h3] at hp; cases hp
        | cons => cases hp
theorem vals2' {ω : Om} {H : Hp} {xs : List V} {p : P} {ds : List D} {w : W} (h1 : ∀ a, prim1 p a = none) (h3 : ∀ a b c, prim3 p a b c = none) (hv : Vds G ω H ds xs) (hp : prim p ds = some w) :
    ∃ x y d e, xs = [x, y] ∧ ds = [d, e] ∧ Vd G ω H d x ∧ Vd G ω H e y ∧ prim2 p d e = some w := by
  cases ds with
  | nil => cases hp
  | cons d r =>
    cases r with
    | nil => have hp : prim1 p d = some w := hp; rw [h1] at hp; cases hp
    | cons e r =>
      cases r with
      | nil =>
        obtain ⟨v, l, rfl, h4, v2, l2, rfl, h5, h6⟩ := hv
        have h6 : l2 = [] := h6
        subst h6
        exact ⟨v, v2, d, e, rfl, rfl, h4, h5, hp⟩
      | cons f r => cases r with
        | nil => have hp : prim3 p d e f = some w := hp; rw [h3] at hp; cases hp
        | cons => cases hp
theorem clAbs : CallR X (.builtin "abs") (rP G .abs) := by
  intro pins s σ H xs us Q I r ⟨o, ω, ds, w, hv, hp, q⟩
  obtain ⟨x, d, rfl, rfl, h1, hp⟩ := vals1' (fun _ _ => rfl) (fun _ _ _ => rfl) hv hp
  cases d with
  | int i =>
    have := viSome hp; subst this
    cases vdI h1
    exact call_abs pins s σ H _ us Q I r ⟨i, rfl, q_int q⟩
  | _ => cases hp
theorem clLen (hK : X.K = G.K) : CallR X (.builtin "len") (rP G .len) := by
  intro pins s σ H xs us Q I r ⟨o, ω, ds, w, hv, hp, q⟩
  obtain ⟨x, d, rfl, rfl, h1, hp⟩ := vals1' (fun _ _ => rfl) (fun _ _ _ => rfl) hv hp
  cases d with
  | tup ds =>
    have := viSome hp; subst this
    obtain ⟨a, vs, rfl, h3, h4, _⟩ := vdT h1
    exact call_len pins s σ H _ us Q I r ⟨_, ds.length, rfl, .inr ⟨vs, by rw [hK]; exact h3, h4.length⟩, q_int q⟩
  | lst ds =>
    have := viSome hp; subst this
    obtain ⟨a, vs, rfl, h3, h4⟩ := vdL h1
    exact call_len pins s σ H _ us Q I r ⟨_, ds.length, rfl, .inl ⟨vs, SqL.of h3, h4.length⟩, q_int q⟩
  | ro ds =>
    have := viSome hp; subst this
    obtain ⟨a, vs, rfl, h3, h4⟩ := vdR h1
    exact call_len pins s σ H _ us Q I r ⟨_, ds.length, rfl, .inl ⟨vs, by rw [hK]; exact h3, h4.length⟩, q_int q⟩
  | str x =>
    obtain ⟨hz, hp⟩ := ifSome (show (if x.length ≤ sizeLine then vi x.length else none) = some w from hp)
    have := viSome hp; subst this
    cases vdS h1
    exact call_len pins s σ H _ us Q I r ⟨_, x.length, rfl, ⟨hz, rfl⟩, q_int q⟩
  | _ => cases hp
theorem clTuple (hK : X.K = G.K) : CallR X (.type "tuple") (rP G .tuple) := by
  intro pins s σ H xs us Q I r ⟨o, ω, ds, w, hv, hp, q⟩
  obtain ⟨x, d, rfl, rfl, h1, hp⟩ := vals1' (fun _ _ => rfl) (fun _ _ _ => rfl) hv hp
  cases d with
  | tup ds =>
    have := vdSome hp; subst this
    obtain ⟨a, vs, rfl, h3, h4, h5⟩ := vdT h1
    exact call_tuple_of pins s σ H _ us Q I r ⟨a, vs, rfl, .inr ⟨by rw [hK]; exact h3, q_val q h5⟩⟩
  | lst ds =>
    have := vdSome hp; subst this
    obtain ⟨a, vs, rfl, h3, h4⟩ := vdL h1
    exact call_tuple_of pins s σ H _ us Q I r ⟨a, vs, rfl, .inl ⟨SqL.of h3, q_tup q h4⟩⟩
  | _ => cases hp
theorem clList (hK : X.K = G.K) : CallR X (.type "list") (rP G .list) := by
  intro pins s σ H xs us Q I r ⟨o, ω, ds, w, hv, hp, q⟩
  obtain ⟨x, d, rfl, rfl, h1, hp⟩ := vals1' (fun _ _ => rfl) (fun _ _ _ => rfl) hv hp
  cases d with
  | tup ds =>
    cases Option.some.inj hp
    obtain ⟨a, vs, rfl, h3, h4, h5⟩ := vdT h1
    exact call_list_of pins s σ H _ us Q I r ⟨a, vs, rfl, .inr (by rw [hK]; exact h3), q_lst q h4⟩
  | lst ds =>
    cases Option.some.inj hp
    obtain ⟨a, vs, rfl, h3, h4⟩ := vdL h1
    exact call_list_of pins s σ H _ us Q I r ⟨a, vs, rfl, .inl (SqL.of h3), q_lst q h4⟩
  | _ => cases hp
theorem dats_bools {ω : Om} {H : Hp} : ∀ {ds : List D} {vs : List V} {bs : List Bool}, Dats G ω H ds vs → dBools ds = some bs → vs = bs.map V.bl
  | [], vs, bs, h, e => by unfold Dats at h; subst h; cases e; rfl
  | d :: ds, vs, bs, h, e => by
    unfold Dats at h
    obtain ⟨v, r, rfl, h1, h2⟩ := h
    cases d with
    | bl b =>
      have e : (dBools ds).map (b :: ·) = some bs := e
      cases e2 : dBools ds with
      | none => rw [e2] at e; cases e
      | some cs =>
        rw [e2] at e
        cases e
        unfold Dat at h1
        rw [h1, dats_bools h2 e2]
        rfl
    | _ => cases e
theorem clAll (hc : X.calm = true) : CallR X (.builtin "all") (rP G .all) := by
  intro pins s σ H xs us Q I r ⟨o, ω, ds, w, hv, hp, q⟩
  obtain ⟨x, d, rfl, rfl, h1, hp⟩ := vals1' (fun _ _ => rfl) (fun _ _ _ => rfl) hv hp
  cases d with
  | lst ds =>
    obtain ⟨a, vs, rfl, h3, h4⟩ := vdL h1
    have hp : (dBools ds).bind (fun bs => vb (bs.all id)) = some w := hp
    cases e : dBools ds with
    | none => rw [e] at hp; cases hp
    | some bs =>
      rw [e] at hp
      have := vbSome hp; subst this
      have := dats_bools h4 e
      subst this
      exact cr_all hc pins s σ H _ us Q I r ⟨a, bs, rfl, SqL.of h3, q_bl q⟩
  | _ => cases hp
theorem clAny (hc : X.calm = true) : CallR X (.builtin "any") (rP G .any) := by
  intro pins s σ H xs us Q I r ⟨o, ω, ds, w, hv, hp, q⟩
  obtain ⟨x, d, rfl, rfl, h1, hp⟩ := vals1' (fun _ _ => rfl) (fun _ _ _ => rfl) hv hp
  cases d with
  | lst ds =>
    obtain ⟨a, vs, rfl, h3, h4⟩ := vdL h1
    have hp : (dBools ds).bind (fun bs => vb (bs.any id)) = some w := hp
    cases e : dBools ds with
    | none => rw [e] at hp; cases hp
    | some bs =>
      rw [e] at hp
      have := vbSome hp; subst this
      have := dats_bools h4 e
      subst this
      exact cr_any hc pins s σ H _ us Q I r ⟨a, bs, rfl, SqL.of h3, q_bl q⟩
  | _ => cases hp
theorem clInt : CallR X (.type "int") (rP G .int) := by
  intro pins s σ H xs us Q I r ⟨o, ω, ds, w, hv, hp, q⟩
  obtain ⟨x, d, rfl, rfl, h1, hp⟩ := vals1' (fun _ _ => rfl) (fun _ _ _ => rfl) hv hp
  cases d with
  | int i =>
    have := viSome hp; subst this
    cases vdI h1
    exact call_int1 pins s σ H _ us Q I r (.inl ⟨i, rfl, q_int q⟩)
  | bl b =>
    have := viSome hp; subst this
    cases vdB h1
    exact call_int1 pins s σ H _ us Q I r (.inr ⟨b, rfl, q_int q⟩)
  | str x =>
    obtain ⟨hz, hp⟩ := ifSome (show (if x.length ≤ 640 then (PySem.intText? x).bind vi else none) = some w from hp)
    cases e : PySem.intText? x with
    | none => rw [e] at hp; cases hp
    | some n =>
      rw [e] at hp
      have := viSome hp; subst this
      cases vdS h1
      exact call_int_str pins s σ H _ us Q I r ⟨x, n, rfl, e, hz, q_int q⟩
  | _ => cases hp
theorem clStr : CallR X (.type "str") (rP G .str) := by
  intro pins s σ H xs us Q I r ⟨o, ω, ds, w, hv, hp, q⟩
  obtain ⟨x, d, rfl, rfl, h1, hp⟩ := vals1' (fun _ _ => rfl) (fun _ _ _ => rfl) hv hp
  cases d with
  | int i =>
    obtain ⟨hz, hp⟩ := ifSome (show (if i.natAbs.log2 < 1920 then vd (.str (toString i)) else none) = some w from hp)
    have := vdSome hp; subst this
    cases vdI h1
    exact call_str_int pins s σ H _ us Q I r ⟨i, rfl, hz, q_str q⟩
  | _ => cases hp
theorem clMax (hc : X.calm = true) : CallR X (.builtin "max") (rP G .max2) := by
  intro pins s σ H xs us Q I r ⟨o, ω, ds, w, hv, hp, q⟩
  obtain ⟨x, y, d, e, rfl, rfl, h1, h2, hp⟩ := vals2' (fun _ => rfl) (fun _ _ _ => rfl) hv hp
  cases d with
  | int i => cases e with
    | int j =>
      have := viSome hp; subst this
      cases vdI h1; cases vdI h2
      exact call_max2 hc pins s σ H _ us Q I r ⟨i, j, rfl, q_int q⟩
    | _ => cases hp
  | _ => cases hp
theorem clMin (hc : X.calm = true) : CallR X (.builtin "min") (rP G .min2) := by
  intro pins s σ H xs us Q I r ⟨o, ω, ds, w, hv, hp, q⟩
  obtain ⟨x, y, d, e, rfl, rfl, h1, h2, hp⟩ := vals2' (fun _ => rfl) (fun _ _ _ => rfl) hv hp
  cases d with
  | int i => cases e with
    | int j =>
      have := viSome hp; subst this
      cases vdI h1; cases vdI h2
      exact call_min2 hc pins s σ H _ us Q I r ⟨i, j, rfl, q_int q⟩
    | _ => cases hp
  | _ => cases hp
/-- divmod, a divisor of any size that is not great -/
theorem clDm : CallR X (.builtin "divmod") (rP G .divmod) := by
  intro pins s σ H xs us Q I r ⟨o, ω, ds, w, hv, hp, q⟩
  obtain ⟨x, y, d, e, rfl, rfl, h1, h2, hp⟩ := vals2' (fun _ => rfl) (fun _ _ _ => rfl) hv hp
  cases d with
  | int i => cases e with
    | int j =>
      obtain ⟨⟨z1, z2⟩, hp⟩ := ifSome (show (if 0 < j ∧ okDiv j then vd (.tup [.int (i / j), .int (i % j)]) else none) = some w from hp)
      have := vdSome hp; subst this
      cases vdI h1; cases vdI h2
      obtain ⟨u, w', rfl, ⟨t, rfl⟩, ⟨t', rfl⟩⟩ := L2.vals2 r
      refine divmod_int z2.1 ?_ (.inl (PyProof.noPylong_of_log2 z2.2))
      rw [Int.fdiv_eq_ediv_of_nonneg i (by omega), Int.fmod_eq_emod_of_nonneg i (by omega)]
      have hn : H s.heap.objs.size = none := I.hok.fresh (Nat.le_refl _)
      have dd : Dats G ω H [.int (i / j), .int (i % j)] [.int (i / j), .int (i % j)] := .cons (by unfold Dat; rfl) (.cons (by unfold Dat; rfl) .nil)
      refine ⟨.ref s.heap.objs.size, _, ?_, rfl, q_tup q dd _ hn⟩
      refine I.laid (fun b o e => Heap.get?_push_of_some _ e) (Nat.le_refl _) ⟨by show 2 ≤ sizeLine; decide, [.int (i / j) s.toks, .int (i % j) (s.toks + 1)], .cons ⟨_, rfl⟩ (.cons ⟨_, rfl⟩ .nil), ?_⟩
      exact ⟨_, Heap.get?_push_size s.heap rfl, rfl, 0, rfl⟩
    | _ => cases hp
  | _ => cases hp
end
end Ev

set_option Elab.async false
set_option linter.all false
set_option maxRecDepth 100000
set_option maxHeartbeats 4000000
namespace Ev
open PySem PySem.Spec PyProof.Rows L2
/-- what gives True or False -/
def Cmp (p : P) : Prop := ∀ ds w, prim p ds = some w → ∃ b, w = .val (.bl b)
theorem pLt_bl {f : Int → Int → Bool} {a b : D} {w : W} (h : pLt f a b = some w) : ∃ b, w = .val (.bl b) := by
  cases a with
  | int i => cases b with
    | int j => exact ⟨_, vbSome h⟩
    | _ => cases h
  | _ => cases h
theorem cmp2 {p : P} (h1 : ∀ a, prim1 p a = none) (h3 : ∀ a b c, prim3 p a b c = none) (h2 : ∀ a b w, prim2 p a b = some w → ∃ b, w = .val (.bl b)) : Cmp p := fun ds w h => by
  cases ds with
  | nil => cases h
  | cons a r => cases r with
    | nil => have h : prim1 p a = some w := h; rw [h1] at h; cases h
    | cons b r => cases r with
      | nil => exact h2 a b w h
      | cons c r => cases r with
        | nil => have h : prim3 p a b c = some w := h; rw [h3] at h; cases h
        | cons => cases h
theorem cmp1 {p : P} (h2 : ∀ a b, prim2 p a b = none) (h3 : ∀ a b c, prim3 p a b c = none) (h1 : ∀ a w, prim1 p a = some w → ∃ b, w = .val (.bl b)) : Cmp p := fun ds w h => by
  cases ds with
  | nil => cases h
  | cons a r => cases r with
    | nil => exact h1 a w h
    | cons b r => cases r with
      | nil => have h : prim2 p a b = some w := h; rw [h2] at h; cases h
      | cons c r => cases r with
        | nil => have h : prim3 p a b c = some w := h; rw [h3] at h; cases h
        | cons => cases h
theorem ofB_bl {o : Option Bool} {w : W} (h : ofB o = some w) : ∃ b, w = .val (.bl b) := let ⟨b, _, e⟩ := ofB_some h; ⟨b, e⟩
theorem cmpEq : Cmp .eq := cmp2 (fun _ => rfl) (fun _ _ _ => rfl) fun _ _ _ h => ofB_bl h
theorem cmpNe : Cmp .ne := cmp2 (fun _ => rfl) (fun _ _ _ => rfl) fun _ _ _ h => ofB_bl h
theorem cmpIsb : Cmp .isb := cmp2 (fun _ => rfl) (fun _ _ _ => rfl) fun a b w h => by
  have h : pIsb a b = some w := h
  cases a with
  | bl i => cases b with
    | bl j => exact ⟨_, vbSome h⟩
    | _ => cases h
  | _ => cases h
theorem cmpIsnb : Cmp .isnb := cmp2 (fun _ => rfl) (fun _ _ _ => rfl) fun a b w h => by
  have h : pIsnb a b = some w := h
  cases a with
  | bl i => cases b with
    | bl j => exact ⟨_, vbSome h⟩
    | _ => cases h
  | _ => cases h
theorem cmpLt : Cmp .lt := cmp2 (fun _ => rfl) (fun _ _ _ => rfl) fun _ _ _ h => pLt_bl h
theorem cmpLe : Cmp .le := cmp2 (fun _ => rfl) (fun _ _ _ => rfl) fun _ _ _ h => pLt_bl h
theorem cmpGt : Cmp .gt := cmp2 (fun _ => rfl) (fun _ _ _ => rfl) fun _ _ _ h => pLt_bl h
theorem cmpGe : Cmp .ge := cmp2 (fun _ => rfl) (fun _ _ _ => rfl) fun _ _ _ h => pLt_bl h
theorem cmpIsN : Cmp .isN := cmp1 (fun _ _ => rfl) (fun _ _ _ => rfl) fun _ _ h => ⟨_, vbSome h⟩
theorem cmpIsnotN : Cmp .isnotN := cmp1 (fun _ _ => rfl) (fun _ _ _ => rfl) fun _ _ h => ⟨_, vbSome h⟩
section
variable {G : Gm} {A : Amb} {Wx : WX} {F : Fe} {X : Cx} {a b c : Expr} {ca cb cc : CE} {pos : Pos} {p : P}
theorem prim_endT (hp : Cmp p) {es : CA} {σ : L2.St} {H : Hp} {Q : Bool → Hp → Prop} (h : TTs G A Wx F (.prim p es) σ H Q) : TAv G A Wx F es σ H fun vs H1 => rP G p vs H1 fun x H2 => ∃ k, x = .bl k ∧ Q k H2 := by
  obtain ⟨g, τ, ω, S, h⟩ := h
  refine prim_end ⟨g, τ, ω, S, out_noTie ?_⟩
  unfold evT at h
  have e : evE F (.prim p es) g = bR (evA F es g) (endP p) := by simp only [evE]
  rw [e] at h ⊢
  cases hm : evA F es g with
  | none => rw [hm] at h; exact h
  | some r =>
    rw [hm] at h
    cases r with
    | exc e g1 => exact h
    | ok as g1 =>
      have h : Out _ _ (bR (endP p as g1) fun w g1 => ofO (wtruth w) fun b => some (.ok b g1)) := h
      show Out _ _ (endP p as g1)
      have key : ∀ w g2, endP p as g1 = some (.ok w g2) → ∃ b, w = .val (.bl b) := fun w g2 q => by
        unfold endP at q
        cases e2 : wds as with
        | none => rw [e2] at q; cases q
        | some ds =>
          rw [e2] at q
          dsimp only at q
          cases e3 : prim p ds with
          | none => rw [e3] at q; cases q
          | some w' =>
            rw [e3] at q
            cases q
            exact hp ds _ e3
      cases hr : endP p as g1 with
      | none => rw [hr] at h; exact h
      | some r2 =>
        rw [hr] at h
        cases r2 with
        | exc e g2 => exact h
        | ok w g2 =>
          obtain ⟨k, rfl⟩ := key w g2 hr
          intro v H' ω' S'
          have hd : Dat G ω' H' (.bl k) v := S'.last.1
          unfold Dat at hd
          exact ⟨k, hd, h H' ω' S'.less⟩
theorem ptCmp {op : CmpOp} (hp : Cmp p) (ho : OpR X (compareOp op) (r2 G p)) (ha : PE X a (TAr G A Wx F ca)) (hb : PE X b (TAr G A Wx F cb)) (hm : behindInMarks op b = false) : PT X (.Compare a [op] [b] pos) (TTs G A Wx F (.prim p (.cons ca (.cons cb .nil)))) :=
  ptImp (pt_cmpR ho ha hb hm) fun _ _ _ h => tas_two (prim_endT hp h) fun _ _ _ q => q
theorem ptIsN {j pos'} (ha : PE X a (TAr G A Wx F ca)) : PT X (.Compare a [.Is] [.Constant .none j pos'] pos) (TTs G A Wx F (.prim .isN (.cons ca .nil))) :=
  ptImp (pt_cmp (pc_isN ha)) fun σ H Q h => tas_one (prim_endT cmpIsN h) fun x H1 ⟨o, ω, ds, w, hv, hp, q⟩ => by
    obtain ⟨d, rfl, h1⟩ := vds1 hv
    have e := vbSome (show vb (isNon d) = some w from hp)
    subst e
    rw [vd_non h1]
    exact q_bl q
theorem ptNotN {j pos'} (ha : PE X a (TAr G A Wx F ca)) : PT X (.Compare a [.IsNot] [.Constant .none j pos'] pos) (TTs G A Wx F (.prim .isnotN (.cons ca .nil))) :=
  ptImp (pt_cmp (pc_notN ha)) fun σ H Q h => tas_one (prim_endT cmpIsnotN h) fun x H1 ⟨o, ω, ds, w, hv, hp, q⟩ => by
    obtain ⟨d, rfl, h1⟩ := vds1 hv
    have e := vbSome (show vb (!isNon d) = some w from hp)
    subst e
    rw [vd_non h1]
    exact q_bl q
theorem isV_some {w : W} {d : D} (h : isV w = some d) : w = .val d := by
  cases w with
  | val x => cases h; rfl
  | _ => cases h
theorem cmpB_some {x y : D} {t : Bool} (h : cmpB p x y = some t) : prim p [x, y] = some (.val (.bl t)) := by
  unfold cmpB at h
  cases e : prim p [x, y] with
  | none => rw [e] at h; cases h
  | some w =>
    rw [e] at h
    have h : isBl w = some t := h
    cases w with
    | val d => cases d with
      | bl b => cases h; rfl
      | _ => cases h
    | _ => cases h
theorem r2_of {σ : L2.St} {g : Sg} {τ : Tm} {H : Hp} {ω : Om} {x y : D} {v u : V} {t : Bool} {K : VK} (S : Stt G A σ g ((τ ++ [(v, .val x, none)]) ++ [(u, .val y, none)]) H ω) (h : prim p [x, y] = some (.val (.bl t)))
    (q : ∀ H' ω', Stt G A σ g ((τ ++ [(v, .val x, none)]) ++ [(u, .val y, none)]) H' ω' → K (.bl t) H') : r2 G p v u H K := by
  have h1 : Dat G ω H x v := S.less.last.1
  have h2 : Dat G ω H y u := S.last.1
  refine ⟨.x, ω, [x, y], _, ⟨v, [u], rfl, h1.vd, u, [], rfl, h2.vd, rfl⟩, h, fun z H' ω' gr en => ?_⟩
  have en : Dat G ω' H' (.bl t) z := en
  unfold Dat at en
  subst en
  exact q H' ω' (S.grow gr)
theorem tChain_of {p q : P} {op op' : CmpOp} {σ : L2.St} {H : Hp} {Q : VK} (h : TEv G A Wx F (.chain p q ca cb cc) σ H Q) : tChain (r2 G p) (r2 G q) (TEv G A Wx F ca) (TEv G A Wx F cb) (TEv G A Wx F cc) σ H Q := by
  obtain ⟨g, τ, ω, S, h0⟩ := h
  have h := noTie_out h0
  simp only [evE] at h
  refine ⟨g, τ, ω, S, out_noTie (h.bind.imp (fun w g1 k1 => ?_) fun _ _ h => h)⟩
  intro v H1 ω1 S1
  obtain ⟨x, hx, k2⟩ := k1.ofO
  cases isV_some hx
  refine ⟨g1, _, ω1, S1, out_noTie (k2.bind.imp (fun w g2 k3 => ?_) fun _ _ h => h.less)⟩
  intro u H2 ω2 S2
  obtain ⟨y, hy, k4⟩ := k3.ofO
  cases isV_some hy
  obtain ⟨t, ht, k5⟩ := k4.ofO
  refine r2_of S2 (cmpB_some ht) fun H3 ω3 S3 => ⟨t, rfl, ?_⟩
  cases t with
  | false =>
    rw [if_neg (by decide)]
    exact k5 _ H3 ω3 (S3.less.less.push (show Dat G ω3 H3 (.bl false) _ by unfold Dat; rfl))
  | true =>
    rw [if_pos rfl]
    refine ⟨g2, _, ω3, S3, out_noTie (k5.bind.imp (fun w g3 k6 => ?_) fun _ _ h => h.less.less)⟩
    intro z H4 ω4 S4
    obtain ⟨z', hz, k7⟩ := k6.ofO
    cases isV_some hz
    obtain ⟨t2, ht2, k8⟩ := k7.ofO
    exact r2_of (τ := τ ++ [(v, W.val x, none)]) S4 (cmpB_some ht2) fun H5 ω5 S5 => k8 _ H5 ω5 (S5.less.less.less.push (show Dat G ω5 H5 (.bl t2) _ by unfold Dat; rfl))
theorem peChain {p q : P} {op op' : CmpOp} (ho : OpR X (compareOp op) (r2 G p)) (ho' : OpR X (compareOp op') (r2 G q)) (ha : PE X a (TEv G A Wx F ca)) (hb : PE X b (TEv G A Wx F cb)) (hc : PE X c (TEv G A Wx F cc)) (hm : lastMarks [op, op'] [b, c] = false) :
    PE X (.Compare a [op, op'] [b, c] pos) (TEv G A Wx F (.chain p q ca cb cc)) :=
  peImp (pe_chain ho ho' ha hb hc hm) fun _ _ _ h => tChain_of (op := op) (op' := op') h
def tChain3 (r r' r2' : R2) (ta tb tc td : TE) : TE := fun σ H Q => ta σ H fun x H1 => tb σ H1 fun y H2 => r x y H2 fun z H3 => ∃ k, z = .bl k ∧
  (if k = true then tc σ H3 fun w H4 => r' y w H4 fun z2 H5 => ∃ k2, z2 = .bl k2 ∧ (if k2 = true then td σ H5 fun u H6 => r2' w u H6 Q else Q (.bl false) H5) else Q (.bl false) H3)
theorem pe_chain3 {d : Expr} {op op' op2 : CmpOp} {r r' r2' : R2} {ta tb tc td : TE} (ho : OpR X (compareOp op) r) (ho' : OpR X (compareOp op') r') (ho2 : OpR X (compareOp op2) r2') (ha : PE X a ta) (hb : PE X b tb) (hc : PE X c tc) (hd : PE X d td)
    (hm : lastMarks [op, op', op2] [b, c, d] = false) : PE X (.Compare a [op, op', op2] [b, c, d] pos) (tChain3 r r' r2' ta tb tc td) := by
  refine ⟨fun pins s σ H Q I h => ?_⟩
  refine Compare_chain (thn (ha.run pins s σ H _ I h) fun v s1 ⟨x, H1, I1, r1, q1⟩ => chain_link (thn (hb.run pins s1 σ H1 _ I1 q1) fun u s2 ⟨y, H2, I2, r2, q2⟩ =>
    thn (ho pins s2 σ H2 x y v u _ I2 r1 r2 q2) fun d s3 ⟨z, H3, I3, r3, k, e, q3⟩ => ?_)) hm
  subst e
  cases r3
  refine wpAny_truthy_bool ?_
  cases k with
  | false => exact ite_ff ⟨.bl false, H3, I3, rfl, q3⟩
  | true =>
    refine ite_tt (chain_link (thn (hc.run pins s3 σ H3 _ I3 q3) fun w' s4 ⟨z', H4, I4, r4, q4⟩ => thn (ho' pins s4 σ H4 y z' u w' _ I4 r2 r4 q4) fun d2 s5 ⟨z2, H5, I5, r5, k2, e2, q5⟩ => ?_))
    subst e2
    cases r5
    refine wpAny_truthy_bool ?_
    cases k2 with
    | false => exact ite_ff ⟨.bl false, H5, I5, rfl, q5⟩
    | true => exact ite_tt (chain_last (thn (hd.run pins s5 σ H5 _ I5 q5) fun w6 s6 ⟨z6, H6, I6, r6, q6⟩ => ho2 pins s6 σ H6 z' z6 w' w6 Q I6 r4 r6 q6))
theorem pt_chain3 {d : Expr} {op op' op2 : CmpOp} {r r' r2' : R2} {ta tb tc td : TE} (ho : OpR X (compareOp op) r) (ho' : OpR X (compareOp op') r') (ho2 : OpR X (compareOp op2) r2') (ha : PE X a ta) (hb : PE X b tb) (hc : PE X c tc) (hd : PE X d td)
    (hm : lastMarks [op, op', op2] [b, c, d] = false) : PT X (.Compare a [op, op', op2] [b, c, d] pos) (tTest (tChain3 r r' r2' ta tb tc td)) := by
  refine ⟨fun pins s σ H Q I h => ?_⟩
  refine isTrue_chain (thn (ha.run pins s σ H _ I h) fun v s1 ⟨x, H1, I1, r1, q1⟩ => test_link (thn (hb.run pins s1 σ H1 _ I1 q1) fun u s2 ⟨y, H2, I2, r2, q2⟩ =>
    thn (ho pins s2 σ H2 x y v u _ I2 r1 r2 q2) fun d s3 ⟨z, H3, I3, r3, k, e, q3⟩ => ?_)) hm
  subst e
  cases r3
  refine wpAny_truthy_bool ?_
  cases k with
  | false =>
    obtain ⟨k', e', q'⟩ := q3
    cases e'
    exact ite_ff ⟨H3, I3, q'⟩
  | true =>
    refine ite_tt (test_link (thn (hc.run pins s3 σ H3 _ I3 q3) fun w' s4 ⟨z', H4, I4, r4, q4⟩ => thn (ho' pins s4 σ H4 y z' u w' _ I4 r2 r4 q4) fun d' s5 ⟨z2, H5, I5, r5, k2, e2, q5⟩ => ?_))
    subst e2
    cases r5
    refine wpAny_truthy_bool ?_
    cases k2 with
    | false =>
      obtain ⟨k', e', q'⟩ := q5
      cases e'
      exact ite_ff ⟨H5, I5, q'⟩
    | true =>
      refine ite_tt (test_last (thn (hd.run pins s5 σ H5 _ I5 q5) fun w6 s6 ⟨z6, H6, I6, r6, q6⟩ => thn (ho2 pins s6 σ H6 z' z6 w' w6 _ I6 r4 r6 q6) fun d7 s7 ⟨z7, H7, I7, r7, k3, e3, q7⟩ => ?_))
      subst e3
      cases r7
      exact wpAny_truthy_bool ⟨H7, I7, q7⟩
theorem tChain3_of {cd : CE} {p q r : P} {σ : L2.St} {H : Hp} {Q : VK} (h : TEv G A Wx F (.chain3 p q r ca cb cc cd) σ H Q) : tChain3 (r2 G p) (r2 G q) (r2 G r) (TEv G A Wx F ca) (TEv G A Wx F cb) (TEv G A Wx F cc) (TEv G A Wx F cd) σ H Q := by
  obtain ⟨g, τ, ω, S, h0⟩ := h
  have h := noTie_out h0
  simp only [evE] at h
  refine ⟨g, τ, ω, S, out_noTie (h.bind.imp (fun w g1 k1 => ?_) fun _ _ h => h)⟩
  intro v H1 ω1 S1
  obtain ⟨x, hx, k2⟩ := k1.ofO
  cases isV_some hx
  refine ⟨g1, _, ω1, S1, out_noTie (k2.bind.imp (fun w g2 k3 => ?_) fun _ _ h => h.less)⟩
  intro u H2 ω2 S2
  obtain ⟨y, hy, k4⟩ := k3.ofO
  cases isV_some hy
  obtain ⟨t, ht, k5⟩ := k4.ofO
  refine r2_of S2 (cmpB_some ht) fun H3 ω3 S3 => ⟨t, rfl, ?_⟩
  cases t with
  | false =>
    rw [if_neg (by decide)]
    exact k5 _ H3 ω3 (S3.less.less.push (show Dat G ω3 H3 (.bl false) _ by unfold Dat; rfl))
  | true =>
    rw [if_pos rfl]
    refine ⟨g2, _, ω3, S3, out_noTie (k5.bind.imp (fun w g3 k6 => ?_) fun _ _ h => h.less.less)⟩
    intro z H4 ω4 S4
    obtain ⟨z', hz, k7⟩ := k6.ofO
    cases isV_some hz
    obtain ⟨t2, ht2, k8⟩ := k7.ofO
    refine r2_of (τ := τ ++ [(v, W.val x, none)]) S4 (cmpB_some ht2) fun H5 ω5 S5 => ⟨t2, rfl, ?_⟩
    cases t2 with
    | false =>
      rw [if_neg (by decide)]
      exact k8 _ H5 ω5 (S5.less.less.less.push (show Dat G ω5 H5 (.bl false) _ by unfold Dat; rfl))
    | true =>
      rw [if_pos rfl]
      refine ⟨g3, _, ω5, S5, out_noTie (k8.bind.imp (fun w g4 k9 => ?_) fun _ _ h => h.less.less.less)⟩
      intro z3 H6 ω6 S6
      obtain ⟨z4, hz4, k10⟩ := k9.ofO
      cases isV_some hz4
      obtain ⟨t3, ht3, k11⟩ := k10.ofO
      exact r2_of (τ := (τ ++ [(v, W.val x, none)]) ++ [(u, W.val y, none)]) S6 (cmpB_some ht3) fun H7 ω7 S7 => k11 _ H7 ω7 (S7.less.less.less.less.push (show Dat G ω7 H7 (.bl t3) _ by unfold Dat; rfl))
theorem peChain3 {d : Expr} {cd : CE} {p q r : P} {op op' op2 : CmpOp} (ho : OpR X (compareOp op) (r2 G p)) (ho' : OpR X (compareOp op') (r2 G q)) (ho2 : OpR X (compareOp op2) (r2 G r)) (ha : PE X a (TEv G A Wx F ca)) (hb : PE X b (TEv G A Wx F cb)) (hc : PE X c (TEv G A Wx F cc)) (hd : PE X d (TEv G A Wx F cd)) (hm : lastMarks [op, op', op2] [b, c, d] = false) :
    PE X (.Compare a [op, op', op2] [b, c, d] pos) (TEv G A Wx F (.chain3 p q r ca cb cc cd)) :=
  peImp (pe_chain3 ho ho' ho2 ha hb hc hd hm) fun _ _ _ h => tChain3_of h
theorem tts_ev {c : CE} {σ : L2.St} {H : Hp} {Q : Bool → Hp → Prop} (hb : ∀ g w g', evE F c g = some (.ok w g') → ∃ b, w = .val (.bl b)) (h : TTs G A Wx F c σ H Q) : TEv G A Wx F c σ H fun x H2 => ∃ k, x = .bl k ∧ Q k H2 := by
  obtain ⟨g, τ, ω, S, h⟩ := h
  refine ⟨g, τ, ω, S, out_noTie ?_⟩
  unfold evT at h
  cases hm : evE F c g with
  | none => rw [hm] at h; exact h
  | some r =>
    rw [hm] at h
    cases r with
    | exc e g1 => exact h
    | ok w g1 =>
      obtain ⟨k, rfl⟩ := hb g w g1 hm
      intro v H' ω' S'
      have hd : Dat G ω' H' (.bl k) v := S'.last.1
      unfold Dat at hd
      exact ⟨k, hd, h H' ω' S'.less⟩
theorem bR_ok {α β : Type} {m : Option (ER α)} {f : α → Sg → Option (ER β)} {b : β} {g : Sg} (h : bR m f = some (.ok b g)) : ∃ a g1, m = some (.ok a g1) ∧ f a g1 = some (.ok b g) := by
  cases m with
  | none => cases h
  | some r => cases r with
    | ok a g1 => exact ⟨a, g1, rfl, h⟩
    | exc e g1 => cases h
theorem ofO_ok {α β : Type} {o : Option α} {f : α → Option β} {b : β} (h : ofO o f = some b) : ∃ a, o = some a ∧ f a = some b := by
  cases o with
  | none => cases h
  | some a => exact ⟨a, rfl, h⟩
theorem chain_bl {p q : P} (g : Sg) (w : W) (g' : Sg) (h : evE F (.chain p q ca cb cc) g = some (.ok w g')) : ∃ b, w = .val (.bl b) := by
  simp only [evE] at h
  obtain ⟨a, g1, _, h⟩ := bR_ok h
  obtain ⟨x, _, h⟩ := ofO_ok h
  obtain ⟨a, g1, _, h⟩ := bR_ok h
  obtain ⟨y, _, h⟩ := ofO_ok h
  obtain ⟨t, _, h⟩ := ofO_ok h
  cases t with
  | false => cases h; exact ⟨_, rfl⟩
  | true =>
    obtain ⟨a, g1, _, h⟩ := bR_ok h
    obtain ⟨z, _, h⟩ := ofO_ok h
    obtain ⟨t, _, h⟩ := ofO_ok h
    cases h
    exact ⟨_, rfl⟩
theorem chain3_bl {cd : CE} {p q r : P} (g : Sg) (w : W) (g' : Sg) (h : evE F (.chain3 p q r ca cb cc cd) g = some (.ok w g')) : ∃ b, w = .val (.bl b) := by
  simp only [evE] at h
  obtain ⟨a, g1, _, h⟩ := bR_ok h
  obtain ⟨x, _, h⟩ := ofO_ok h
  obtain ⟨a, g1, _, h⟩ := bR_ok h
  obtain ⟨y, _, h⟩ := ofO_ok h
  obtain ⟨t, _, h⟩ := ofO_ok h
  cases t with
  | false => cases h; exact ⟨_, rfl⟩
  | true =>
    obtain ⟨a, g1, _, h⟩ := bR_ok h
    obtain ⟨z, _, h⟩ := ofO_ok h
    obtain ⟨t, _, h⟩ := ofO_ok h
    cases t with
    | false => cases h; exact ⟨_, rfl⟩
    | true =>
      obtain ⟨a, g1, _, h⟩ := bR_ok h
      obtain ⟨z, _, h⟩ := ofO_ok h
      obtain ⟨t, _, h⟩ := ofO_ok h
      cases h
      exact ⟨_, rfl⟩
theorem ptChain3 {d : Expr} {cd : CE} {p q r : P} {op op' op2 : CmpOp} (ho : OpR X (compareOp op) (r2 G p)) (ho' : OpR X (compareOp op') (r2 G q)) (ho2 : OpR X (compareOp op2) (r2 G r)) (ha : PE X a (TEv G A Wx F ca)) (hb : PE X b (TEv G A Wx F cb)) (hc : PE X c (TEv G A Wx F cc)) (hd : PE X d (TEv G A Wx F cd)) (hm : lastMarks [op, op', op2] [b, c, d] = false) :
    PT X (.Compare a [op, op', op2] [b, c, d] pos) (TTs G A Wx F (.chain3 p q r ca cb cc cd)) :=
  ptImp (pt_chain3 ho ho' ho2 ha hb hc hd hm) fun _ _ _ h => tChain3_of (tts_ev chain3_bl h)
theorem ptChain {p q : P} {op op' : CmpOp} (ho : OpR X (compareOp op) (r2 G p)) (ho' : OpR X (compareOp op') (r2 G q)) (ha : PE X a (TEv G A Wx F ca)) (hb : PE X b (TEv G A Wx F cb)) (hc : PE X c (TEv G A Wx F cc)) (hm : lastMarks [op, op'] [b, c] = false) :
    PT X (.Compare a [op, op'] [b, c] pos) (TTs G A Wx F (.chain p q ca cb cc)) :=
  ptImp (pt_chain ho ho' ha hb hc hm) fun _ _ _ h => tChain_of (op := op) (op' := op') (tts_ev chain_bl h)
theorem atI_get {ω : Om} {H : Hp} {ds : List D} {vs : List V} {i : Int} {d : D} (h : Dats G ω H ds vs) (e : atI ds i = some d) : ∃ v, atI vs i = some v ∧ Dat G ω H d v := by
  unfold atI at e ⊢
  rw [← h.length]
  cases e1 : ixN ds.length i with
  | none => rw [e1] at e; cases e
  | some k =>
    rw [e1] at e
    exact h.get e
theorem item_ok (hK : X.K = G.K) {x y : V} {H : Hp} {Q : VK} (h : r2 G .item x y H Q) : rIx X.K x y H Q := by
  obtain ⟨o, ω, ds, w, hv, hp, q⟩ := h
  obtain ⟨d, e, rfl, h1, h2⟩ := vds2 hv
  have hp : pItem d e = some w := hp
  cases d with
  | tup xs => cases e with
    | int i =>
      have hp : (atI xs i).bind vd = some w := hp
      cases e1 : atI xs i with
      | none => rw [e1] at hp; cases hp
      | some d =>
        rw [e1] at hp
        have := vdSome hp; subst this
        obtain ⟨a, vs, rfl, h3, h4, _⟩ := vdT h1
        cases vdI h2
        obtain ⟨v, h5, h6⟩ := atI_get h4 e1
        exact .inr (.inl ⟨a, vs, i, v, rfl, rfl, by rw [hK]; exact h3, h5, q_val q h6⟩)
    | _ => cases hp
  | lst xs => cases e with
    | int i =>
      have hp : (atI xs i).bind vd = some w := hp
      cases e1 : atI xs i with
      | none => rw [e1] at hp; cases hp
      | some d =>
        rw [e1] at hp
        have := vdSome hp; subst this
        obtain ⟨a, vs, rfl, h3, h4⟩ := vdL h1
        cases vdI h2
        obtain ⟨v, h5, h6⟩ := atI_get h4 e1
        exact .inl ⟨a, vs, i, v, rfl, rfl, SqL.of h3, h5, q_val q h6⟩
    | _ => cases hp
  | str x => cases e with
    | int i =>
      obtain ⟨hz, hp⟩ := ifSome (show (if x.length ≤ sizeLine then (atI x.cps.toList i).bind fun c => vd (.str ⟨#[c]⟩) else none) = some w from hp)
      cases e1 : atI x.cps.toList i with
      | none => rw [e1] at hp; cases hp
      | some d =>
        rw [e1] at hp
        have := vdSome hp; subst this
        cases vdS h1
        cases vdI h2
        exact .inr (.inr ⟨x, i, d, rfl, rfl, hz, e1, q_str q⟩)
    | _ => cases hp
  | _ => cases hp
theorem peItem (hK : X.K = G.K) (ha : PE X a (TAr G A Wx F ca)) (hb : PE X b (TAr G A Wx F cb)) (hs : PlainIx b) : PE X (.Subscript a b pos) (TEv G A Wx F (.prim .item (.cons ca (.cons cb .nil)))) :=
  peImp (pe_ix ix_seq ha hb hs) fun _ _ _ h => tas_two (prim_end h) fun _ _ _ q => item_ok hK q
def rSl (K : PySem.W.Frag) : V → Option Int → Option Int → Hp → VK → Prop := fun x lo hi H Q => rSlL K x lo hi H Q ∨ rSlA K x lo hi H Q ∨ rSlS x lo hi H Q
theorem sl_any : SlR X (rSl X.K) := sl_list.or (sl_tupA.or sl_str)
theorem Dats.cut {ω : Om} {H : Hp} {ds : List D} {vs : List V} (lo hi : Option Int) (h : Dats G ω H ds vs) : Dats G ω H (cutD ds lo hi) (cutV vs lo hi) := by
  unfold cutD cutV
  rw [h.length]
  exact (h.drop _).take _
theorem slice_ok (hK : X.K = G.K) {x : V} {d : D} {lo hi : Option Int} {H : Hp} {ω : Om} {o : Own} {w : W} {Q : VK} (h1 : Vd G ω H d x) (hp : pSlice lo hi d = some w) (q : Qw G ω H o w Q) : rSl X.K x lo hi H Q := by
  cases d with
  | tup ds =>
    have := vdSome hp; subst this
    obtain ⟨a, vs, rfl, h3, h4, h5⟩ := vdT h1
    refine .inr (.inl ⟨a, vs, rfl, by rw [hK]; exact h3, fun hc => ?_, fun _ => q_tup q (h4.cut lo hi)⟩)
    refine q_val q ?_
    have e : cutD ds lo hi = ds := by
      unfold cutD
      have hl := h4.length
      rw [← hl] at hc
      rw [hc.1, hc.2]
      simp
    rw [e]
    exact h5
  | lst ds =>
    cases Option.some.inj hp
    obtain ⟨a, vs, rfl, h3, h4⟩ := vdL h1
    exact .inl ⟨a, vs, rfl, SqL.of h3, q_lst q (h4.cut lo hi)⟩
  | ro ds =>
    cases Option.some.inj hp
    obtain ⟨a, vs, rfl, h3, h4⟩ := vdR h1
    exact .inl ⟨a, vs, rfl, by rw [hK]; exact h3, q_lst q (h4.cut lo hi)⟩
  | str x =>
    obtain ⟨hz, hp⟩ := ifSome (show (if x.length ≤ sizeLine then vd (.str (cutS x lo hi)) else none) = some w from hp)
    have := vdSome hp; subst this
    cases vdS h1
    exact .inr (.inr ⟨x, rfl, hz, q_str q⟩)
  | _ => cases hp
theorem intD_some {d : D} {i : Int} (h : intD d = some i) : d = .int i := by
  cases d with
  | int j => cases h; rfl
  | _ => cases h
theorem peSlFrom {p2 : Pos} (hK : X.K = G.K) (ha : PE X a (TAr G A Wx F ca)) (hb : PE X b (TAr G A Wx F cb)) : PE X (.Subscript a (.Slice (some b) none none p2) pos) (TEv G A Wx F (.prim .sliceFrom (.cons ca (.cons cb .nil)))) := by
  refine peImp (pe_slice sl_any ha (po_some hb) po_none) fun σ H Q h => ?_
  refine tg_imp (tas_cons (prim_end h)) fun x H1 h1 => tg_imp (tas_cons h1) fun y H2 h2 => ?_
  obtain ⟨o, ω, ds, w, hv, hp, q⟩ := tas_nil h2
  obtain ⟨d, e, rfl, h3, h4⟩ := vds2 hv
  have hp : (intD e).bind (fun i => pSlice (some i) none d) = some w := hp
  cases e1 : intD e with
  | none => rw [e1] at hp; cases hp
  | some i =>
    rw [e1] at hp
    have := intD_some e1; subst this
    cases vdI h4
    exact ⟨i, rfl, slice_ok hK h3 hp q⟩
theorem peSlTo {p2 : Pos} (hK : X.K = G.K) (ha : PE X a (TAr G A Wx F ca)) (hb : PE X b (TAr G A Wx F cb)) : PE X (.Subscript a (.Slice none (some b) none p2) pos) (TEv G A Wx F (.prim .sliceTo (.cons ca (.cons cb .nil)))) := by
  refine peImp (pe_slice sl_any ha po_none (po_some hb)) fun σ H Q h => ?_
  refine tg_imp (tas_cons (prim_end h)) fun x H1 h1 => ?_
  refine tg_imp (tas_cons h1) fun y H2 h2 => ?_
  obtain ⟨o, ω, ds, w, hv, hp, q⟩ := tas_nil h2
  obtain ⟨d, e, rfl, h3, h4⟩ := vds2 hv
  have hp : (intD e).bind (fun i => pSlice none (some i) d) = some w := hp
  cases e1 : intD e with
  | none => rw [e1] at hp; cases hp
  | some i =>
    rw [e1] at hp
    have := intD_some e1; subst this
    cases vdI h4
    exact ⟨i, rfl, slice_ok hK h3 hp q⟩
theorem isI_some {w : W} {i : Int} (h : isI w = some i) : w = .val (.int i) := by
  cases w with
  | val d => cases d with
    | int j => cases h; rfl
    | _ => cases h
  | _ => cases h
theorem peSl {p2 : Pos} (hK : X.K = G.K) (ha : PE X a (TAr G A Wx F ca)) (hb : PE X b (TEv G A Wx F cb)) (hc : PE X c (TEv G A Wx F cc)) : PE X (.Subscript a (.Slice (some b) (some c) none p2) pos) (TEv G A Wx F (.sl ca cb cc)) := by
  refine peImp (pe_slice sl_any ha (po_some hb) (po_some hc)) fun σ H Q h => ?_
  obtain ⟨g, τ, ω, S, h0⟩ := h
  have h := noTie_out h0
  simp only [evE] at h
  refine ⟨g, τ, ω, S, h.bind.imp (fun w g1 k1 => ?_) fun _ _ h => h⟩
  intro x H1 ω1 S1
  refine ⟨g1, _, ω1, S1, out_noTie (k1.bind.imp (fun w2 g2 k2 => ?_) fun _ _ h => h.less)⟩
  intro y H2 ω2 S2
  obtain ⟨i, hi, k3⟩ := k2.ofO
  cases isI_some hi
  have e1 : Dat G ω2 H2 (.int i) y := S2.last.1
  unfold Dat at e1
  refine ⟨i, e1, g2, _, ω2, S2.less, out_noTie (k3.bind.imp (fun w3 g3 k4 => ?_) fun _ _ h => h.less)⟩
  intro z H3 ω3 S3
  obtain ⟨j, hj, k5⟩ := k4.ofO
  cases isI_some hj
  have e2 : Dat G ω3 H3 (.int j) z := S3.last.1
  unfold Dat at e2
  refine ⟨j, e2, ?_⟩
  unfold endSl at k5
  obtain ⟨d, hd, k6⟩ := k5.ofO
  obtain ⟨w4, hw, k7⟩ := k6.ofO
  have hv : Vd G ω3 H3 d x := S3.less.last.1.vd hd
  have S4 : Stt G A σ g3 (τ ++ mkT [x] [w]) H3 ω3 := S3.less
  obtain ⟨ω4, S5, e4⟩ := S4.back rfl
  exact slice_ok (o := .t τ.length) hK (hv.ext e4) hw fun v H' ω' gr en => k7 v H' ω' ((S5.grow gr).push en)
theorem tyX_of {ω : Om} {H : Hp} {d : D} {v : V} {u : String} (hK : X.K = G.K) (h : Vd G ω H d v) (e : tyD d = some u) : TyX X.K H v (.type u) := by
  cases d with
  | non => cases vdN h; cases e; exact .base .non
  | bl b => cases vdB h; cases e; exact .base (.bl b)
  | int i => cases vdI h; cases e; exact .base (.int i)
  | str x => cases vdS h; cases e; exact .base (.str x)
  | tup ds =>
    cases e
    obtain ⟨a, vs, rfl, h1, _⟩ := vdT h
    rcases h1 with (h1 | ⟨o, h1⟩) | ⟨o, its, n, h1, h2, _⟩
    · exact .base (.tup h1)
    · exact .fTuple h1
    · exact .kTuple (by rw [hK]; exact h1) h2
  | lst ds =>
    cases e
    obtain ⟨a, vs, rfl, h1, _⟩ := vdL h
    exact .base (.lst h1)
  | emp =>
    cases e
    unfold Vd Dat at h
    obtain ⟨a, rfl, h1, _⟩ := h
    exact .base (.dK h1)
  | _ => cases e
theorem kit_tyB {K : PySem.W.Frag} {u t : String} {b : Bool} (h : tyB u t = some b) : PySem.W.kitOne K (.type u) (.type t) = some b := by
  have key : ∀ u ∈ ["NoneType", "bool", "int", "str", "tuple", "list", "dict"], ∀ t ∈ ["bool", "int", "str", "tuple", "list", "dict"], kitB u t = some (u == t || (t == "int" && u == "bool")) := by decide +kernel
  unfold tyB at h
  obtain ⟨hc, h⟩ := ifSome h
  rw [Bool.and_eq_true] at hc
  have := key u (List.contains_iff_mem.mp hc.1) t (List.contains_iff_mem.mp hc.2)
  cases h
  exact kit_ty this
theorem peIsi {t : String} {x : Str} {q q2 : Pos} {id : Str} (hK : X.K = G.K) (hg : Gl X "isinstance") (hm : X.mg "isinstance" = none) (hgt : Gl X id) (hmt : X.mg id = none) (hv : bootBuiltins id = some (.type t)) (hn : id ≠ "__name__") (hdb : (id == ("__debug__" : Str)) = false)
    (ha : PE X a (TAr G A Wx F ca))
    (h1 : starEach [a, .Name id q2] X.env = (false, eval a X.env) :: starEach [.Name id q2] X.env) (h2 : starEach [.Name id q2] X.env = (false, eval (.Name id q2) X.env) :: starEach [] X.env) (hpl : (backTo pos (starEach [.Name id q2] X.env)).any (·.1) = false) :
    PE X (.Call (.Name "isinstance" q) [a, .Name id q2] [] pos) (TEv G A Wx F (.prim (.isi t) (.cons ca .nil))) := by
  refine peImp (pe_callB call_isi hg hm (by decide +kernel) (pa_cons ha (pa_cons (pe_bltn (v := .ty t) hgt hmt hv rfl hn hdb) pa_nil h2) h1) (by decide) (by decide) h1 hpl) fun σ H Q h => ?_
  refine tg_imp (tas_cons (prim_end h)) fun y H1 h1 => ?_
  obtain ⟨o, ω, ds, w, hv, hp, q⟩ := tas_nil h1
  obtain ⟨d, rfl, h3⟩ := vds1 hv
  obtain ⟨b, hb, rfl⟩ := ofB_some (show ofB (isTy t d) = some w from hp)
  unfold isTy at hb
  cases e : tyD d with
  | none => rw [e] at hb; cases hb
  | some u =>
    rw [e] at hb
    exact ⟨y, .ty t, .type u, .type t, b, rfl, .ty t, tyX_of hK h3 e, kit_tyB hb, q_bl q⟩
end
end Ev

set_option Elab.async false
set_option linter.all false
set_option maxRecDepth 100000
set_option maxHeartbeats 4000000
namespace Ev
open PySem PySem.Spec PyProof.Rows L2
section
variable {G : Gm} {A : Amb} {Wx : WX} {F : Fe} {X : Cx} {pos apos : Pos} {p : MP}
/-- the last temp's list becomes another one -/
theorem Stt.relist {σ : L2.St} {g : Sg} {τ : Tm} {H : Hp} {ω : Om} {a : Addr} {us us' : List V} {xs ys : List D} {t : Option Nat} (S : Stt G A σ g (τ ++ [(.ref a, .lst xs, t)]) H ω) (ha : H a = some (.lst us)) (hd : Dats G ω H ys us') :
    Stt G A σ g (τ ++ [(.ref a, .lst ys, t)]) (upd H a (.lst us')) ω ∧ Ext H ω (upd H a (.lst us')) ω := by
  obtain ⟨⟨a', vs, e, h1, h2, h3⟩, _⟩ := S.last
  injection e with e
  subst e
  have ex : Ext H ω (upd H a (.lst us')) ω := fun b o hb n => by
    have ne : b ≠ a := fun z => by rw [z, h2] at n; cases n
    exact ⟨by rw [upd_ne ne]; exact hb, n⟩
  refine ⟨S.last_upd ex (fun b u o hb hω ne => ?_) ⟨a, us', rfl, upd_same, h2, Dats.mono ex _ _ hd⟩, ex⟩
  have nb : b ≠ a := fun z => by rw [z, h2] at hω; injection hω with hω; exact ne hω.symm
  exact ⟨by rw [upd_ne nb]; exact hb, hω⟩
theorem back1 {σ : L2.St} {g : Sg} {τ : Tm} {H : Hp} {ω : Om} {v : V} {w : W} {t : Option Nat} (S : Stt G A σ g (τ ++ [(v, w, t)]) H ω) : ∃ ω', Stt G A σ (giveBack [(w, t)] g) τ H ω' ∧ Ext H ω H ω' :=
  Stt.back (as := [(w, t)]) (vs := [v]) rfl S
/-- what a change asks -/
def rM (G : Gm) (p : MP) : V → List V → Hp → VK → Prop := fun x vs H Q => ∃ a us xs ds ω d ys, x = .ref a ∧ H a = some (.lst us) ∧ Dats G ω H xs us ∧ Dats G ω H ds vs ∧ mprim p xs ds = some (d, ys) ∧
  ∀ us' rv, Dats G ω H ys us' → Dat G ω H d rv → Q rv (upd H a (.lst us'))
theorem mut_tev {i : Nat} {es : CA} {σ : L2.St} {H : Hp} {Q : VK} (h : TEv G A Wx F (.mut p i es) σ H Q) : tBM X.K "list" (rM G p) (TAr G A Wx F (.v i)) (TAv G A Wx F es) σ H Q := by
  obtain ⟨g, τ, ω, S, h0⟩ := h
  have h := noTie_out h0
  simp only [evE] at h
  refine ⟨g, τ, ω, S, h.bind.imp (fun a g1 k1 => ?_) fun _ _ h => h⟩
  obtain ⟨w, t⟩ := a
  intro v H1 ω1 S1
  obtain ⟨xs, hx, k2⟩ := k1.ofO
  have hw : w = .lst xs := by
    cases w with
    | lst ys => cases hx; rfl
    | _ => cases hx
  subst hw
  obtain ⟨⟨a, us, rfl, h1, h2, h3⟩, _⟩ := S1.last
  refine ⟨.inl ⟨rfl, us, SqL.of h1⟩, g1, _, ω1, S1, k2.bind.imp (fun as g2 k3 => ?_) fun _ _ h => h.less⟩
  intro vs H2 ω2 hl S2
  unfold endM at k3
  dsimp only at k3
  cases hf : freezes (as.map (·.1)) with
  | none => rw [hf] at k3; exact k3.elim
  | some ds =>
    rw [hf] at k3
    dsimp only at k3
    cases hm : mprim p xs ds with
    | none => rw [hm] at k3; exact k3.elim
    | some r =>
      obtain ⟨d, ys⟩ := r
      rw [hm] at k3
      obtain ⟨ω3, S3, D3, _⟩ := S2.frozen hl hf
      obtain ⟨⟨a', us2, e, h4, h5, h6⟩, _⟩ := S3.last
      injection e with e
      subst e
      refine ⟨a, us2, xs, ds, ω3, d, ys, rfl, h4, h6, D3, hm, fun us' rv hd hr => ?_⟩
      obtain ⟨S4, e4⟩ := S3.relist h4 hd
      obtain ⟨ω5, S5, e5⟩ := back1 S4
      exact k3 rv _ ω5 (S5.push (Dat.mono (e4.trans e5) _ _ hr))
theorem dats1 {ω : Om} {H : Hp} {d : D} {vs : List V} (h : Dats G ω H [d] vs) : ∃ v, vs = [v] ∧ Dat G ω H d v := by
  unfold Dats at h
  obtain ⟨v, r, rfl, h1, h2⟩ := h
  unfold Dats at h2
  subst h2
  exact ⟨v, rfl, h1⟩
theorem dats2 {ω : Om} {H : Hp} {d e : D} {vs : List V} (h : Dats G ω H [d, e] vs) : ∃ v u, vs = [v, u] ∧ Dat G ω H d v ∧ Dat G ω H e u := by
  unfold Dats at h
  obtain ⟨v, r, rfl, h1, h2⟩ := h
  obtain ⟨u, rfl, h3⟩ := dats1 h2
  exact ⟨v, u, rfl, h1, h3⟩
theorem mp1 {p : MP} {xs ds : List D} {r : D × List D} (h2 : ∀ i d, mprim2 p xs i d = none) (h : mprim p xs ds = some r) : ∃ d, ds = [d] ∧ mprim1 p xs d = some r := by
  cases ds with
  | nil => cases h
  | cons d ds => cases ds with
    | nil => exact ⟨d, rfl, h⟩
    | cons e ds => cases ds with
      | nil => have h : mprim2 p xs d e = some r := h; rw [h2] at h; cases h
      | cons => cases h
theorem mp2 {p : MP} {xs ds : List D} {r : D × List D} (h1 : ∀ d, mprim1 p xs d = none) (h : mprim p xs ds = some r) : ∃ i d, ds = [i, d] ∧ mprim2 p xs i d = some r := by
  cases ds with
  | nil => cases h
  | cons d ds => cases ds with
    | nil => have h : mprim1 p xs d = some r := h; rw [h1] at h; cases h
    | cons e ds => cases ds with
      | nil => exact ⟨d, e, rfl, h⟩
      | cons => cases h
theorem rAppend_of {x : V} {vs : List V} {H : Hp} {Q : VK} (h : rM G .append x vs H Q) : rAppend x vs H Q := by
  obtain ⟨a, us, xs, ds, ω, d, ys, rfl, h1, h2, h3, h4, q⟩ := h
  obtain ⟨e, rfl, h4⟩ := mp1 (fun _ _ => rfl) h4
  obtain ⟨hc, h4⟩ := ifSome (show (if xs.length + 1 ≤ sizeLine then some (D.non, xs ++ [e]) else none) = some (d, ys) from h4)
  cases h4
  obtain ⟨y, rfl, h5⟩ := dats1 h3
  exact ⟨a, us, y, rfl, rfl, h1, by rw [← h2.length]; exact hc, q _ _ (h2.append (.one h5)) (by unfold Dat; rfl)⟩
theorem rPopAt_of {x : V} {vs : List V} {H : Hp} {Q : VK} (h : rM G .popAt x vs H Q) : rPopAt x vs H Q := by
  obtain ⟨a, us, xs, ds, ω, d, ys, rfl, h1, h2, h3, h4, q⟩ := h
  obtain ⟨e, rfl, h4⟩ := mp1 (fun _ _ => rfl) h4
  obtain ⟨i, hi, k4⟩ := ofO_ok (show ofO (intD e) (fun i => mPop xs i) = some (d, ys) from h4)
  cases intD_some hi
  obtain ⟨y, rfl, h5⟩ := dats1 h3
  unfold Dat at h5
  subst h5
  unfold mPop at k4
  obtain ⟨hc, k5⟩ := ifSome k4
  obtain ⟨k, e1, k6⟩ := ofO_ok k5
  obtain ⟨d', e2, k7⟩ := ofO_ok k6
  cases k7
  obtain ⟨v, h7, h8⟩ := h2.get e2
  obtain ⟨z1, _⟩ := ixN_seq e1
  rw [h2.length] at z1
  exact ⟨a, us, i, k, v, rfl, rfl, h1, hc.1, hc.2, z1, h7, q _ _ (h2.eraseIdx k) h8⟩
theorem rExtend_of {x : V} {vs : List V} {H : Hp} {Q : VK} (h : rM G .extend x vs H Q) : rExtend x vs H Q := by
  obtain ⟨a, us, xs, ds, ω, d, ys, rfl, h1, h2, h3, h4, q⟩ := h
  obtain ⟨e, rfl, h4⟩ := mp1 (fun _ _ => rfl) h4
  have h4 : mExt xs e = some (d, ys) := h4
  obtain ⟨y, rfl, h5⟩ := dats1 h3
  cases e with
  | lst zs =>
    unfold Dat at h5
    obtain ⟨b, ws, rfl, h7, h8⟩ := h5
    obtain ⟨hc, h4⟩ := ifSome (show (if xs.length + zs.length ≤ sizeLine then some (D.non, xs ++ zs) else none) = some (d, ys) from h4)
    cases h4
    exact ⟨a, b, us, ws, rfl, rfl, h1, h7.1, by rw [← h2.length, ← h8.length]; exact hc, q _ _ (h2.append h8) (by unfold Dat; rfl)⟩
  | _ => cases h4
def rInsert : V → List V → Hp → VK → Prop := fun x vs H Q => ∃ (l : Addr) (xs : List V) (i : Int) (y : V), x = .ref l ∧ vs = [.int i, y] ∧ H l = some (.lst xs) ∧ xs.length < sizeLine ∧ 0 ≤ i ∧ i < 2 ^ 63 ∧
    Q .non (upd H l (.lst (xs.take i.toNat ++ [y] ++ xs.drop i.toNat)))
theorem rInsert_of {x : V} {vs : List V} {H : Hp} {Q : VK} (h : rM G .insert x vs H Q) : rInsert x vs H Q := by
  obtain ⟨a, us, xs, ds, ω, d, ys, rfl, h1, h2, h3, h4, q⟩ := h
  obtain ⟨e0, e, rfl, h4⟩ := mp2 (fun _ => rfl) h4
  obtain ⟨i, hi, k4⟩ := ofO_ok (show ofO (intD e0) (fun i => if 0 ≤ i ∧ i ≤ xs.length ∧ xs.length + 1 ≤ sizeLine then some (D.non, xs.take i.toNat ++ [e] ++ xs.drop i.toNat) else none) = some (d, ys) from h4)
  cases intD_some hi
  obtain ⟨y, z, rfl, h5, h7⟩ := dats2 h3
  unfold Dat at h5
  subst h5
  obtain ⟨hc, k5⟩ := ifSome k4
  cases k5
  have hs : (sizeLine : Nat) = 16777216 := sizeLine_eq
  have hl := h2.length
  refine ⟨a, us, i, z, rfl, rfl, h1, by omega, hc.1, by omega, q _ _ ?_ (by unfold Dat; rfl)⟩
  exact ((h2.take _).append (.one h7)).append (h2.drop _)
theorem tBM_imp {K : PySem.W.Frag} {T : String} {r r' : V → List V → Hp → VK → Prop} {i : Nat} {es : CA} {σ : L2.St} {H : Hp} {Q : VK} (hr : ∀ x vs H Q, r x vs H Q → r' x vs H Q) (h : tBM K T r (TAr G A Wx F (.v i)) (TAv G A Wx F es) σ H Q) : tBM K T r' (TAr G A Wx F (.v i)) (TAv G A Wx F es) σ H Q :=
  tg_imp h fun x H1 ⟨h1, g, τ, ω, S, h2⟩ => ⟨h1, g, τ, ω, S, h2.imp (fun _ _ h vs H' ω' hl S' => hr _ _ _ _ (h vs H' ω' hl S')) fun _ _ h => h⟩
/-- x.m(e, ..), x a list of one's own -/
theorem peMut {i : Nat} {name id : String} {nm : Str} {o e : Expr} {es : List Expr} {c : CA} {r : V → List V → Hp → VK → Prop} (slot : Slot "list" nm id) (hty : typeOf (.builtin id) = pure (.type "method_descriptor")) (hm : MtR X id r) (hr : ∀ x vs H Q, rM G p x vs H Q → r x vs H Q)
    (ho : PE X o (TAr G A Wx F (.v i))) (ha : PA X (e :: es) (TAv G A Wx F c))
    (hbase : attributeBase o nm X.env (eval o X.env) = eval o X.env)
    (hfew : ((backTo pos (starEach (e :: es) X.env)).all (fun x => !x.1) && (backToKw pos (keywordEach [] X.env)).all (fun x => x.1.isSome)
      && decide ((e :: es).length + ([] : List Keyword).length + (if ([] : List Keyword).isEmpty then 0 else 1) < 30)) = true)
    (hline : (apos.endLine == pos.line) = true) (hs : starEach (e :: es) X.env = (false, eval e X.env) :: starEach es X.env) (hplain : (backTo pos (starEach es X.env)).any (·.1) = false) :
    PE X (.Call (.Attribute o nm apos) (e :: es) [] pos) (TEv G A Wx F (.mut p i c)) :=
  peImp (pe_bm PySem.F.plainAttrs_list slot hty hm ho ha hbase hfew hline hs hplain) fun _ _ _ h => tBM_imp hr (mut_tev h)
end
end Ev

set_option Elab.async false
set_option linter.all false
set_option maxRecDepth 100000
set_option maxHeartbeats 4000000
namespace Ev
open PySem PySem.Spec PyProof.Rows L2
/-- what a def leaves: what it was not handed to change stands -/
structure After (H0 : Hp) (w0 : Om) (H : Hp) (ω : Om) : Prop where
  fr : ∀ a o, H0 a = some o → (w0 a = none ∨ w0 a = some .x) → H a = some o
  fx : ∀ a, w0 a = some .x → ω a = some .x
  fn : ∀ a, H0 a ≠ none → w0 a = none → ω a = none
/-- a def's promise: it does what f says -/
def spF (G : Gm) (f : List W → Option FR) : Sp := fun vs H Q E => ∃ ws ω, vs.length = ws.length ∧ (∀ (i : Nat) (w : W), ws[i]? = some w → ∃ v, vs[i]? = some v ∧ EntW G ω H (.s i) w v) ∧ (∀ a, ω a ≠ none → H a ≠ none) ∧
  (match f ws with
  | none => False
  | some (.ret w outs) => ∀ v H' ω', After H ω H' ω' → EntW G ω' H' (.t 0) w v → (∀ (i : Nat) (wo : W), outs[i]? = some wo → ∃ u, vs[i]? = some u ∧ EntW G ω' H' (.s i) wo u) → Q v H'
  | some (.exc e outs) => ∀ cls d H' ω', After H ω H' ω' → ExnOk G ω' H' e cls d → (∀ (i : Nat) (wo : W), outs[i]? = some wo → ∃ u, vs[i]? = some u ∧ EntW G ω' H' (.s i) wo u) → E cls d H')
theorem EntW.move {G : Gm} {H H' : Hp} {ω ω' : Om} {o o' : Own} {w : W} {v : V} (e : Ext H ω H' ω') (k : ∀ a u, H a = some u → ω a = some o → H' a = some u ∧ ω' a = some o') (h : EntW G ω H o w v) : EntW G ω' H' o' w v := by
  cases w with
  | val d => exact Dat.mono e d v h
  | lst xs =>
    obtain ⟨a, vs, rfl, h1, h2, h3⟩ := h
    exact ⟨a, vs, rfl, (k a _ h1 h2).1, (k a _ h1 h2).2, Dats.mono e _ _ h3⟩
  | ins c fs =>
    obtain ⟨a, C, dx, fvs, rfl, h1, h2, h3, h4⟩ := h
    exact ⟨a, C, dx, fvs, rfl, (k a _ h1 h2).1, (k a _ h1 h2).2, h3, FDat.mono e _ _ h4⟩
  | out => trivial
section
variable {G : Gm} {A : Amb} {σ : L2.St} {g : Sg} {τ : Tm} {H H' : Hp} {ω ω' : Om}
theorem mkT_get : ∀ {vs : List V} {as : List (W × Option Nat)} {i : Nat} {x : V × W × Option Nat}, vs.length = as.length → ((mkT vs as)[i]? = some x ↔ vs[i]? = some x.1 ∧ as[i]? = some x.2)
  | [], [], i, x, _ => by simp [mkT]
  | [], _ :: _, _, _, h => by simp at h
  | _ :: _, [], _, _, h => by simp at h
  | v :: vs, a :: as, 0, x, _ => by
    obtain ⟨x1, x2, x3⟩ := x
    obtain ⟨a1, a2⟩ := a
    simp [mkT]
  | v :: vs, a :: as, i + 1, x, h => by
    have := mkT_get (vs := vs) (as := as) (i := i) (x := x) (by simpa using h)
    simpa [mkT] using this
theorem mkT_len : ∀ {vs : List V} {as : List (W × Option Nat)}, vs.length = as.length → (mkT vs as).length = vs.length
  | [], [], _ => rfl
  | [], _ :: _, h => by simp at h
  | _ :: _, [], h => by simp at h
  | v :: vs, a :: as, h => by simp [mkT, mkT_len (vs := vs) (as := as) (by simpa using h)]
/-- who owns what, as a def sees it: its arguments its own, all else another's -/
def seen (H : Hp) (ω : Om) (k n : Nat) : Om := fun a => match H a with
  | none => none
  | some _ => (match ω a with
    | none => none
    | some (.t j) => if k ≤ j ∧ j < k + n then some (.s (j - k)) else some .x
    | some _ => some .x)
open Classical in
/-- .. and as its caller does, behind it -/
noncomputable def taken (H : Hp) (ω ω' : Om) (k n : Nat) : Om := fun a => if H a = none ∨ ∃ j, ω a = some (.t j) ∧ k ≤ j ∧ j < k + n then (match ω' a with
    | some (.s i) => some (.t (k + i))
    | some (.t 0) => some (.t (k + n))
    | _ => none) else ω a
theorem seen_none {k n : Nat} {a : Addr} {o : HO} (h : H a = some o) (e : ω a = none) : seen H ω k n a = none := by
  unfold seen
  rw [h, e]
theorem seen_x {k n : Nat} {a : Addr} {o : HO} {u : Own} (h : H a = some o) (e : ω a = some u) (hu : ∀ j, u = .t j → ¬ (k ≤ j ∧ j < k + n)) : seen H ω k n a = some .x := by
  unfold seen
  rw [h, e]
  cases u with
  | s i => rfl
  | x => rfl
  | t j => exact if_neg (hu j rfl)
theorem seen_t {k n j : Nat} {a : Addr} {o : HO} (h : H a = some o) (e : ω a = some (.t (k + j))) (hj : j < n) : seen H ω k n a = some (.s j) := by
  unfold seen
  rw [h, e]
  have e2 : k + j - k = j := by omega
  show (if k ≤ k + j ∧ k + j < k + n then some (Own.s (k + j - k)) else some .x) = _
  rw [if_pos ⟨by omega, by omega⟩, e2]
theorem seen_dom {k n : Nat} {a : Addr} (h : seen H ω k n a ≠ none) : H a ≠ none := by
  intro e
  apply h
  unfold seen
  rw [e]
theorem taken_old {k n : Nat} {a : Addr} {o : HO} (h : H a = some o) (hn : ∀ j, ω a = some (.t j) → ¬ (k ≤ j ∧ j < k + n)) : taken H ω ω' k n a = ω a := by
  unfold taken
  rw [if_neg]
  rintro (e | ⟨j, e, z⟩)
  · rw [h] at e; cases e
  · exact hn j e z
/-- an address that was not the arguments' and is no new one -/
theorem taken_cases {k n : Nat} (a : Addr) (AF : After H (seen H ω k n) H' ω') : (taken H ω ω' k n a = (match ω' a with
    | some (.s i) => some (.t (k + i))
    | some (.t 0) => some (.t (k + n))
    | _ => none)) ∨ (taken H ω ω' k n a = ω a ∧ ((ω a = none ∧ ω' a = none) ∨ (ω a ≠ none ∧ ω' a = some .x))) := by
  by_cases hc : H a = none ∨ ∃ j, ω a = some (.t j) ∧ k ≤ j ∧ j < k + n
  · exact .inl (by unfold taken; rw [if_pos hc])
  · refine .inr ⟨by unfold taken; rw [if_neg hc], ?_⟩
    obtain ⟨o, ho⟩ := Option.ne_none_iff_exists'.mp fun e => hc (.inl e)
    cases e : ω a with
    | none => exact .inl ⟨rfl, AF.fn a (by rw [ho]; exact fun z => by cases z) (seen_none ho e)⟩
    | some u => exact .inr ⟨nofun, AF.fx a (seen_x ho e fun j z w => hc (.inr ⟨j, by rw [e, z], w⟩))⟩
theorem taken_ext {k n : Nat} (AF : After H (seen H ω k n) H' ω') : Ext H' ω' H' (taken H ω ω' k n) := fun a o h e => by
  refine ⟨h, ?_⟩
  rcases taken_cases a AF with q | ⟨q, ⟨z, _⟩ | ⟨_, z⟩⟩
  · rw [q, e]
  · rw [q, z]
  · rw [z] at e; cases e
theorem taken_s {k n i : Nat} {a : Addr} (AF : After H (seen H ω k n) H' ω') (e : ω' a = some (.s i)) : taken H ω ω' k n a = some (.t (k + i)) := by
  rcases taken_cases a AF with q | ⟨q, ⟨_, z⟩ | ⟨_, z⟩⟩
  · simp only [q, e]
  · rw [z] at e; cases e
  · rw [z] at e; cases e
theorem taken_t {k n : Nat} {a : Addr} (AF : After H (seen H ω k n) H' ω') (e : ω' a = some (.t 0)) : taken H ω ω' k n a = some (.t (k + n)) := by
  rcases taken_cases a AF with q | ⟨q, ⟨_, z⟩ | ⟨_, z⟩⟩
  · simp only [q, e]
  · rw [z] at e; cases e
  · rw [z] at e; cases e
theorem outsTo_get : ∀ {as : List (W × Option Nat)} {os : List W} {i : Nat} {x : W × Option Nat}, (outsTo as os)[i]? = some x → ∃ w, as[i]? = some (w, x.2) ∧ (os[i]? = some x.1 ∨ x.1 = .out)
  | [], os, i, x, h => by simp [outsTo] at h
  | (w, t) :: r, [], 0, x, h => by
    simp [outsTo] at h
    subst h
    exact ⟨w, rfl, .inr rfl⟩
  | (w, t) :: r, [], i + 1, x, h => by
    obtain ⟨w', h1, h2⟩ := outsTo_get (as := r) (os := []) (i := i) (by simpa [outsTo] using h)
    exact ⟨w', by simpa using h1, .inr (h2.resolve_left (by simp))⟩
  | (w, t) :: r, o :: os, 0, x, h => by
    simp [outsTo] at h
    subst h
    exact ⟨w, rfl, .inl rfl⟩
  | (w, t) :: r, o :: os, i + 1, x, h => by
    obtain ⟨w', h1, h2⟩ := outsTo_get (as := r) (os := os) (i := i) (by simpa [outsTo] using h)
    exact ⟨w', by simpa using h1, by simpa using h2⟩
theorem outsTo_len : ∀ {as : List (W × Option Nat)} {os : List W}, (outsTo as os).length = as.length
  | [], os => by simp [outsTo]
  | (w, t) :: r, [] => by simpa [outsTo] using outsTo_len (as := r) (os := [])
  | (w, t) :: r, o :: os => by simpa [outsTo] using outsTo_len (as := r) (os := os)
theorem getApp {α : Type} {l r : List α} {k : Nat} {x : α} (h : (l ++ r)[k]? = some x) : (k < l.length ∧ l[k]? = some x) ∨ (l.length ≤ k ∧ r[k - l.length]? = some x) := by
  by_cases hk : k < l.length
  · rw [List.getElem?_append_left hk] at h; exact .inl ⟨hk, h⟩
  · rw [List.getElem?_append_right (by omega)] at h; exact .inr ⟨by omega, h⟩
/-- behind a call: what was handed in as it stands now -/
theorem Stt.called {vs : List V} {as : List (W × Option Nat)} {os : List W} (S : Stt G A σ g (τ ++ mkT vs as) H ω) (hl : vs.length = as.length) (AF : After H (seen H ω τ.length as.length) H' ω')
    (hos : ∀ (i : Nat) (wo : W), os[i]? = some wo → ∃ u, vs[i]? = some u ∧ EntW G ω' H' (.s i) wo u) :
    Stt G A σ g (τ ++ mkT vs (outsTo as os)) H' (taken H ω ω' τ.length as.length) := by
  have hl2 : vs.length = (outsTo as os).length := by rw [outsTo_len, hl]
  have old : ∀ a u o, H a = some u → ω a = some o → (∀ j, o = .t j → ¬ (τ.length ≤ j ∧ j < τ.length + as.length)) → H' a = some u ∧ taken H ω ω' τ.length as.length a = some o := fun a u o h1 h2 h3 =>
    ⟨AF.fr a u h1 (.inr (seen_x h1 h2 h3)), by rw [taken_old h1 fun j z => h3 j (by rw [h2] at z; injection z)]; exact h2⟩
  have ex : Ext H ω H' (taken H ω ω' τ.length as.length) := fun a o h n => ⟨AF.fr a o h (.inl (seen_none h n)), by rw [taken_old h fun j z => by rw [n] at z; cases z]; exact n⟩
  have tget : ∀ (k : Nat) (v : V) (w : W) (t : Option Nat), (τ ++ mkT vs (outsTo as os))[k]? = some (v, w, t) → (k < τ.length ∧ τ[k]? = some (v, w, t)) ∨ ∃ j w0, k = τ.length + j ∧ vs[j]? = some v ∧ (os[j]? = some w ∨ w = .out) ∧ as[j]? = some (w0, t) := fun k v w t h => by
    rcases getApp h with h | ⟨h1, h2⟩
    · exact .inl h
    · obtain ⟨h3, h4⟩ := (mkT_get hl2).mp h2
      obtain ⟨w0, h5, h6⟩ := outsTo_get h4
      exact .inr ⟨k - τ.length, w0, by omega, h3, h6, h5⟩
  have told : ∀ (k : Nat) (v : V) (w : W) (t : Option Nat), (τ ++ mkT vs (outsTo as os))[k]? = some (v, w, t) → ∃ w0, (τ ++ mkT vs as)[k]? = some (v, w0, t) := fun k v w t h => by
    rcases tget k v w t h with ⟨h1, h2⟩ | ⟨j, w0, rfl, h3, h4, h5⟩
    · exact ⟨w, by rw [List.getElem?_append_left h1]; exact h2⟩
    · refine ⟨w0, ?_⟩
      rw [List.getElem?_append_right (by omega)]
      have e : τ.length + j - τ.length = j := by omega
      rw [e]
      exact (mkT_get hl).mpr ⟨h3, h5⟩
  refine ⟨S.len, fun i w h => ?_, fun k v w t h => ?_, fun k k' v v' w w' i h h' => ?_, S.pin, S.dom, fun a o h z => ?_, fun a h => ?_, fun a h1 h => ?_⟩
  · obtain ⟨v, h1, h2⟩ := S.slot i w h
    exact ⟨v, h1, h2.mono ex fun a u p q => old a u _ p q fun j z => by cases z⟩
  · obtain ⟨w0, h0⟩ := told k v w t h
    obtain ⟨_, h2⟩ := S.temp k v w0 t h0
    refine ⟨?_, h2⟩
    rcases tget k v w t h with ⟨h3, h4⟩ | ⟨j, w1, rfl, h3, h4, h5⟩
    · have := (S.temp k v w t (by rw [List.getElem?_append_left h3]; exact h4)).1
      exact this.mono ex fun a u p q => old a u _ p q fun j z => by injection z with z; omega
    · rcases h4 with h4 | h4
      · obtain ⟨u, h6, h7⟩ := hos j w h4
        rw [h3] at h6
        cases h6
        exact h7.ren (taken_ext AF) fun a q => taken_s AF q
      · subst h4
        trivial
  · obtain ⟨w0, h0⟩ := told k v w (some i) h
    obtain ⟨w1, h1⟩ := told k' v' w' (some i) h'
    exact S.tie k k' v v' w0 w1 i h0 h1
  · have h3 := S.fr a o h z
    rcases z with z | z
    · exact (ex a o h3 (S.fn a (by rw [h]; exact fun e => by cases e) z)).1
    · exact (old a o _ h3 (S.fx a z) fun j e => by cases e).1
  · obtain ⟨o, h2⟩ := Option.ne_none_iff_exists'.mp (S.dom a (by rw [h]; exact fun e => by cases e))
    exact (old a o _ (S.fr a o h2 (.inr h)) (S.fx a h) fun j e => by cases e).2
  · obtain ⟨o, h2⟩ := Option.ne_none_iff_exists'.mp h1
    exact (ex a o (S.fr a o h2 (.inl h)) (S.fn a h1 h)).2
/-- what is handed in, as the def sees it -/
theorem Stt.given {vs : List V} {as : List (W × Option Nat)} (S : Stt G A σ g (τ ++ mkT vs as) H ω) (hl : vs.length = as.length) :
    ∀ (i : Nat) (w : W), (as.map (·.1))[i]? = some w → ∃ v, vs[i]? = some v ∧ EntW G (seen H ω τ.length as.length) H (.s i) w v := fun i w h => by
  rw [List.getElem?_map] at h
  cases e : as[i]? with
  | none => rw [e] at h; cases h
  | some a =>
    rw [e] at h
    cases h
    have hi := lt_of_get e
    have hv : vs[i]? = some vs[i] := List.getElem?_eq_getElem (by omega)
    refine ⟨vs[i], hv, ?_⟩
    have h1 : (τ ++ mkT vs as)[τ.length + i]? = some (vs[i], a) := by
      rw [List.getElem?_append_right (by omega)]
      have e2 : τ.length + i - τ.length = i := by omega
      rw [e2]
      exact (mkT_get hl).mpr ⟨hv, e⟩
    have h2 := (S.temp (τ.length + i) vs[i] a.1 a.2 h1).1
    exact h2.move (fun b o hb n => ⟨hb, seen_none hb n⟩) fun b u hb q => ⟨hb, seen_t hb q hi⟩
end
end Ev

set_option Elab.async false
set_option linter.all false
set_option maxRecDepth 100000
set_option maxHeartbeats 4000000
namespace Ev
open PySem PySem.Spec PyProof.Rows L2
section
variable {G : Gm} {A : Amb} {σ : L2.St} {g : Sg} {τ : Tm} {H H' : Hp} {ω ω' : Om}
/-- owners renamed, none that a live thing has -/
theorem Stt.rename {o o' : Own} (S : Stt G A σ g τ H ω) (hx : o ≠ .x) (hs : ∀ i, o ≠ .s i) (ht : ∀ k, o = .t k → τ.length ≤ k) : Stt G A σ g τ H (ren ω o o') where
  len := S.len
  slot := fun i w h => let ⟨v, h1, h2⟩ := S.slot i w h; ⟨v, h1, h2.ren ren_ext fun a q => ren_ne q fun z => hs i z.symm⟩
  temp := fun k v w t h => let ⟨h1, h2⟩ := S.temp k v w t h; ⟨h1.ren ren_ext fun a q => ren_ne q fun z => by have := ht k z.symm; have := lt_of_get h; omega, h2⟩
  tie := S.tie
  pin := S.pin
  dom := S.dom
  fr := S.fr
  fx := fun a h => ren_ne (S.fx a h) fun z => hx z.symm
  fn := fun a h1 h => ren_none (S.fn a h1 h)
theorem Stt.pushAt {m : Nat} {v : V} {w : W} (S : Stt G A σ g τ H ω) (hm : τ.length ≤ m) (h : EntW G ω H (.t m) w v) : ∃ ω', Stt G A σ g (τ ++ [(v, w, none)]) H ω' :=
  ⟨_, (S.rename (o := .t m) (o' := .t τ.length) nofun (fun i => nofun) fun k e => by injection e with e; omega).push (h.ren ren_ext fun a q => ren_at q)⟩
/-- lent things go back: who owns all else stays -/
theorem Stt.put' {i : Nat} {v : V} {w : W} (S : Stt G A σ g (τ ++ [(v, w, some i)]) H ω) :
    ∃ ω', Stt G A σ (g.set i (some w)) τ H ω' ∧ Ext H ω H ω' ∧ ∀ a o, ω a = some o → o ≠ .t τ.length → ω' a = some o := by
  obtain ⟨hw, ht⟩ := S.last
  obtain ⟨hv, ho⟩ := ht i rfl
  have hi := lt_of_get ho
  have hn : ∀ (k : Nat) (v' : V) (w' : W), τ[k]? ≠ some (v', w', some i) := fun k v' w' hk => by
    have h1 := lt_of_get hk
    have := S.tie k τ.length v' v w' w i (by rw [List.getElem?_append_left h1]; exact hk) (by rw [List.getElem?_append_right (Nat.le_refl _)]; simp)
    omega
  refine ⟨ren ω (.t τ.length) (.s i), ⟨by rw [List.length_set]; exact S.len, fun j u hj => ?_, fun k v' w' t' hk => ?_, S.less.tie, S.pin, S.dom, S.fr, fun a ha => ?_, fun a h1 h2 => ren_none (S.fn a h1 h2)⟩, ren_ext, fun a o q ne => ren_ne q ne⟩
  · rcases set_get hj with ⟨rfl, e, _⟩ | ⟨ne, hj⟩
    · cases e
      exact ⟨v, hv, hw.ren ren_ext fun a q => ren_at q⟩
    · obtain ⟨v', h1, h2⟩ := S.slot j u hj
      exact ⟨v', h1, h2.ren ren_ext fun a q => ren_ne q (nofun)⟩
  · have hkl := lt_of_get hk
    obtain ⟨h1, h2⟩ := S.temp k v' w' t' (by rw [List.getElem?_append_left hkl]; exact hk)
    refine ⟨h1.ren ren_ext fun a q => ren_ne q fun z => ?_, fun j e => ?_⟩
    · injection z with z
      omega
    · obtain ⟨h3, h4⟩ := h2 j e
      refine ⟨h3, ?_⟩
      by_cases ej : j = i
      · subst ej
        subst e
        exact absurd hk (hn k v' w')
      · rw [List.getElem?_set_ne (Ne.symm ej)]; exact h4
  · exact ren_ne (S.fx a ha) (nofun)
theorem Stt.back' : ∀ {as : List (W × Option Nat)} {vs : List V} {τ : Tm} {ω : Om}, vs.length = as.length → Stt G A σ g (τ ++ mkT vs as) H ω →
    ∃ ω', Stt G A σ (giveBack as g) τ H ω' ∧ Ext H ω H ω' ∧ ∀ a o, ω a = some o → (∀ j, o = .t j → ¬ (τ.length ≤ j ∧ j < τ.length + as.length)) → ω' a = some o
  | [], [], τ, ω, _, S => by
    have e : τ ++ mkT [] [] = τ := by simp [mkT]
    rw [e] at S
    exact ⟨ω, S, Ext.refl, fun _ _ q _ => q⟩
  | [], _ :: _, _, _, hl, _ => by simp at hl
  | _ :: _, [], _, _, hl, _ => by simp at hl
  | (w, t) :: as, v :: vs, τ, ω, hl, S => by
    have e : τ ++ mkT (v :: vs) ((w, t) :: as) = (τ ++ [(v, w, t)]) ++ mkT vs as := by simp [mkT]
    rw [e] at S
    obtain ⟨ω1, S1, e1, k1⟩ := Stt.back' (by simpa using hl) S
    have k1' : ∀ a o, ω a = some o → (∀ j, o = .t j → ¬ (τ.length ≤ j ∧ j < τ.length + ((w, t) :: as).length)) → ω1 a = some o := fun a o q n => k1 a o q fun j z w' => n j z (by
      simp only [List.length_append, List.length_cons, List.length_nil] at w' ⊢
      omega)
    cases t with
    | none => exact ⟨ω1, S1.less, e1, k1'⟩
    | some i =>
      obtain ⟨ω2, S2, e2, k2⟩ := S1.put'
      refine ⟨ω2, S2, e1.trans e2, fun a o q n => k2 a o (k1' a o q n) fun z => n _ z ⟨Nat.le_refl _, ?_⟩⟩
      simp only [List.length_cons]
      omega
end
section
variable {G : Gm} {A : Amb} {Wx : WX} {F : Fe} {X : Cx}
/-- a call's end -/
theorem endC_sp {sem : List W → Option FR} {as : List (W × Option Nat)} {g : Sg} {σ : L2.St} {τ : Tm} {H : Hp} {ω : Om} {vs : List V} {Q : VK} (hl : vs.length = as.length) (S : Stt G A σ g (τ ++ mkT vs as) H ω)
    (h : Out (fun w g' => ∀ v H' ω', Stt G A σ g' (τ ++ [(v, w, none)]) H' ω' → Q v H') (Kx G A Wx σ τ) (endC (some sem) as g)) : spF G sem vs H Q (WE Wx σ) := by
  refine ⟨as.map (·.1), seen H ω τ.length as.length, by simp [hl], S.given hl, fun a q => seen_dom q, ?_⟩
  unfold endC at h
  dsimp only at h
  cases e : sem (as.map (·.1)) with
  | none => rw [e] at h; exact h
  | some r =>
    rw [e] at h
    cases r with
    | ret w os =>
      intro v H' ω' AF en hos
      have S2 := S.called hl AF hos
      obtain ⟨ω3, S3, e3, k3⟩ := S2.back' (by rw [outsTo_len, hl])
      have en2 : EntW G (taken H ω ω' τ.length as.length) H' (.t (τ.length + as.length)) w v := en.ren (taken_ext AF) fun a q => taken_t AF q
      have en3 := en2.ren e3 fun a q => k3 a _ q fun j z => by injection z with z; rw [outsTo_len]; omega
      obtain ⟨ω4, S4⟩ := S3.pushAt (by omega) en3
      exact h v H' ω4 S4
    | exc x os =>
      intro cls d H' ω' AF ex hos
      have S2 := S.called hl AF hos
      obtain ⟨ω3, S3, e3, k3⟩ := S2.back' (by rw [outsTo_len, hl])
      refine h cls d H' ω3 S3 ?_
      obtain ⟨C, h1, h2, h3⟩ := ex
      refine ⟨C, h1, h2, ?_⟩
      cases hf : x.f with
      | none => rw [hf] at h3; exact h3
      | some fx =>
        rw [hf] at h3
        obtain ⟨dd, v, h4, h5, h6⟩ := h3
        exact ⟨dd, v, h4, ((taken_ext AF).trans e3) _ _ h5.1 h5.2, Dat.mono ((taken_ext AF).trans e3) _ _ h6⟩
theorem call_tev {f : Str} {sem : List W → Option FR} {es : CA} {σ : L2.St} {H : Hp} {Q : VK} (hf : F.fn f = some sem) (h : TEv G A Wx F (.call f es) σ H Q) : TAv G A Wx F es σ H fun vs H1 => spF G sem vs H1 Q (WE Wx σ) := by
  obtain ⟨g, τ, ω, S, h0⟩ := h
  have h := noTie_out h0
  simp only [evE, hf, ofO] at h
  exact ⟨g, τ, ω, S, h.bind.imp (fun as g1 k1 vs H1 ω1 hl S1 => endC_sp hl S1 k1) fun _ _ h => h⟩
/-- a def that may be called -/
structure FnAt (X : Cx) (G : Gm) (sem : List W → Option FR) (a : Addr) : Prop where
  ok : ∃ k fd ps, FnOk X.prog X.w X.K X.mg X.base (CX X.prog X.w) k a fd ps (spF G sem) ∧ Room k X.A ∧ Binds X.K fd ps []
  keep : PySem.W.keepIn X.K (.ref a) = true
theorem peCall {f : Str} {sem : List W → Option FR} {a : Addr} {e : Expr} {es : List Expr} {c : CA} {p pos : Pos} (hf : F.fn f = some sem) (ha : FnAt X G sem a) (hm : X.mg f = some (.ref a)) (hg : Gl X f) (tk : Takes X Wx) (hes : PA X (e :: es) (TAv G A Wx F c))
    (hdb : (f == ("__debug__" : Str)) = false) (he : starEach (e :: es) X.env = (false, eval e X.env) :: starEach es X.env) (hpl : (backTo pos (starEach es X.env)).any (·.1) = false) : PE X (.Call (.Name f p) (e :: es) [] pos) (TEv G A Wx F (.call f c)) := by
  obtain ⟨k, fd, ps, h1, h2, h3⟩ := ha.ok
  exact peImp (pe_callS (E := WE Wx) h1 h2 hg hm ha.keep h3 (fun σ => passAt tk σ) hes hdb he hpl) fun σ H Q h => call_tev hf h
theorem peCall0 {f : Str} {sem : List W → Option FR} {a : Addr} {p pos : Pos} (hf : F.fn f = some sem) (ha : FnAt X G sem a) (hm : X.mg f = some (.ref a)) (hg : Gl X f) (tk : Takes X Wx) (hdb : (f == ("__debug__" : Str)) = false) : PE X (.Call (.Name f p) [] [] pos) (TEv G A Wx F (.call f .nil)) := by
  obtain ⟨k, fd, ps, h1, h2, h3⟩ := ha.ok
  refine ⟨fun pins s σ H Q I h => ?_⟩
  refine wpAny_Call_Name_kw (ld_glob I hg hm ?_ hdb)
  exact PySem.W.callWith_K0 I.kIn ha.keep (run_fnS (us := []) h1 h2 h3 (passAt tk σ) I .nil (tas_nil (call_tev hf h)))
end
end Ev

set_option Elab.async false
set_option linter.all false
set_option maxRecDepth 100000
set_option maxHeartbeats 4000000
namespace Ev
open PySem PySem.Spec PyProof.Rows L2
/-- from the k-th temp on: another's -/
def lentx (k : Nat) (ω : Om) : Om := fun a => match ω a with
  | some (.t j) => if k ≤ j then some .x else some (.t j)
  | o => o
def maskA (H : Hp) (ω : Om) (pin : List (Nat × V)) : Amb := ⟨H, fun a => match H a with
  | none => none
  | some _ => ω a, pin⟩
def outs (bk : List (W × Option Nat)) : List (W × Option Nat) := bk.map fun b => (.out, b.2)
theorem outs_len {bk : List (W × Option Nat)} : (outs bk).length = bk.length := List.length_map _
section
variable {G : Gm} {A : Amb} {σ σ' : L2.St} {g g' : Sg} {τ : Tm} {H H' : Hp} {ω ω' : Om} {vs : List V} {bk : List (W × Option Nat)} {k : Nat}
theorem lentx_none {a : Addr} (h : ω a = none) : lentx k ω a = none := by unfold lentx; rw [h]
theorem lentx_t {a : Addr} {j : Nat} (h : ω a = some (.t j)) (hj : k ≤ j) : lentx k ω a = some .x := by unfold lentx; rw [h]; exact if_pos hj
theorem lentx_lt {a : Addr} {j : Nat} (h : ω a = some (.t j)) (hj : j < k) : lentx k ω a = some (.t j) := by unfold lentx; rw [h]; exact if_neg (by omega)
theorem lentx_s {a : Addr} {j : Nat} (h : ω a = some (.s j)) : lentx k ω a = some (.s j) := by unfold lentx; rw [h]
theorem lentx_x {a : Addr} (h : ω a = some .x) : lentx k ω a = some .x := by unfold lentx; rw [h]
theorem lentx_ext : Ext H ω H (lentx k ω) := fun _ _ h n => ⟨h, lentx_none n⟩
theorem maskA_w {a : Addr} {o : HO} {pin : List (Nat × V)} (h : H a = some o) : (maskA H ω pin).w0 a = ω a := by
  show (match H a with | none => none | some _ => ω a) = ω a
  rw [h]
theorem maskA_some {a : Addr} {pin : List (Nat × V)} {u : Own} (h : (maskA H ω pin).w0 a = some u) : H a ≠ none ∧ ω a = some u := by
  have h' : (match H a with | none => none | some _ => ω a) = some u := h
  cases e : H a with
  | none => rw [e] at h'; cases h'
  | some o => rw [e] at h'; exact ⟨nofun, h'⟩
/-- temps behind a place, and those ahead of it -/
theorem tmp_cases {bs : List (W × Option Nat)} (hl : vs.length = bs.length) {j : Nat} {x : V × W × Option Nat} (h : (τ ++ mkT vs bs)[j]? = some x) : (j < τ.length ∧ τ[j]? = some x) ∨ ∃ i, j = τ.length + i ∧ vs[i]? = some x.1 ∧ bs[i]? = some x.2 := by
  rcases getApp h with h | ⟨h1, h2⟩
  · exact .inl h
  · obtain ⟨h3, h4⟩ := (mkT_get hl).mp h2
    exact .inr ⟨j - τ.length, by omega, h3, h4⟩
theorem tmp_at {bs : List (W × Option Nat)} (hl : vs.length = bs.length) {i : Nat} {v : V} {b : W × Option Nat} (h1 : vs[i]? = some v) (h2 : bs[i]? = some b) : (τ ++ mkT vs bs)[τ.length + i]? = some (v, b.1, b.2) := by
  rw [List.getElem?_append_right (by omega)]
  have e : τ.length + i - τ.length = i := by omega
  rw [e]
  exact (mkT_get hl).mpr ⟨h1, h2⟩
theorem tmp_lo {bs : List (W × Option Nat)} {j : Nat} {x : V × W × Option Nat} (h : τ[j]? = some x) : (τ ++ mkT vs bs)[j]? = some x := by
  rw [List.getElem?_append_left (lt_of_get h)]; exact h
theorem Stt.enter (S : Stt G A σ g (τ ++ mkT vs bk) H ω) (hl : vs.length = bk.length) : Stt G (maskA H (lentx τ.length ω) A.pin) σ g (τ ++ mkT vs (outs bk)) H (lentx τ.length ω) := by
  have hl2 : vs.length = (outs bk).length := by rw [outs_len]; exact hl
  have back : ∀ (j : Nat) (v : V) (w : W) (t : Option Nat), (τ ++ mkT vs (outs bk))[j]? = some (v, w, t) → (j < τ.length ∧ τ[j]? = some (v, w, t)) ∨ (w = .out ∧ ∃ w0, (τ ++ mkT vs bk)[j]? = some (v, w0, t)) := fun j v w t h => by
    rcases tmp_cases hl2 h with h | ⟨i, rfl, h1, h2⟩
    · exact .inl h
    · unfold outs at h2
      rw [List.getElem?_map] at h2
      cases e : bk[i]? with
      | none => rw [e] at h2; cases h2
      | some b =>
        rw [e] at h2
        cases h2
        exact .inr ⟨rfl, b.1, tmp_at hl h1 e⟩
  refine ⟨S.len, fun i w h => ?_, fun j v w t h => ?_, fun j j' v v' w w' i h h' => ?_, S.pin, fun a h => ?_, fun a o h _ => h, fun a h => (maskA_some h).2, fun a h1 h => ?_⟩
  · obtain ⟨v, h1, h2⟩ := S.slot i w h
    exact ⟨v, h1, h2.ren lentx_ext fun a q => lentx_s q⟩
  · rcases back j v w t h with ⟨h1, h2⟩ | ⟨rfl, w0, h2⟩
    · obtain ⟨h3, h4⟩ := S.temp j v w t (tmp_lo h2)
      exact ⟨h3.ren lentx_ext fun a q => lentx_lt q h1, h4⟩
    · exact ⟨trivial, (S.temp j v w0 t h2).2⟩
  · have fixT : ∀ (j : Nat) (v : V) (w : W), (τ ++ mkT vs (outs bk))[j]? = some (v, w, some i) → ∃ w0, (τ ++ mkT vs bk)[j]? = some (v, w0, some i) := fun j v w h => by
      rcases back j v w _ h with ⟨h1, h2⟩ | ⟨_, w0, h2⟩
      · exact ⟨w, tmp_lo h2⟩
      · exact ⟨w0, h2⟩
    obtain ⟨w1, q1⟩ := fixT j v w h
    obtain ⟨w2, q2⟩ := fixT j' v' w' h'
    exact S.tie j j' v v' w1 w2 i q1 q2
  · obtain ⟨u, hu⟩ := Option.ne_none_iff_exists'.mp h
    exact (maskA_some hu).1
  · obtain ⟨o, ho⟩ := Option.ne_none_iff_exists'.mp h1
    have ho : H a = some o := ho
    rw [maskA_w ho] at h
    exact h
/-- what stays through a walk -/
structure Stay (H0 : Hp) (w0 : Om) (H : Hp) (ω : Om) : Prop where
  fz : ∀ a o, H0 a = some o → w0 a = none → H a = some o ∧ ω a = none
  lx : ∀ a o, H0 a = some o → w0 a = some .x → H a = some o
theorem Stt.stay {w0 : Om} {pin : List (Nat × V)} (S : Stt G (maskA H w0 pin) σ' g' τ H' ω') : Stay H w0 H' ω' :=
  ⟨fun a o h n => ⟨S.fr a o h (.inl (by rw [maskA_w h]; exact n)), S.fn a (by show H a ≠ none; rw [h]; exact nofun) (by rw [maskA_w h]; exact n)⟩, fun a o h n => S.fr a o h (.inr (by rw [maskA_w h]; exact n))⟩
/-- behind a walk -/
def unlent (k : Nat) (H : Hp) (ω ω' : Om) : Om := fun a => match H a, ω a with
  | some _, some (.t j) => if k ≤ j then some (.t j) else ω' a
  | _, _ => ω' a
theorem unlent_t {a : Addr} {o : HO} {j : Nat} (h : H a = some o) (e : ω a = some (.t j)) (hj : k ≤ j) : unlent k H ω ω' a = some (.t j) := by
  unfold unlent
  rw [h, e]
  exact if_pos hj
theorem unlent_cases (a : Addr) : unlent k H ω ω' a = ω' a ∨ ∃ o j, H a = some o ∧ ω a = some (.t j) ∧ k ≤ j ∧ unlent k H ω ω' a = some (.t j) := by
  unfold unlent
  split
  · rename_i o j h1 h2
    by_cases hj : k ≤ j
    · exact .inr ⟨o, j, h1, h2, hj, if_pos hj⟩
    · exact .inl (if_neg hj)
  · exact .inl rfl
theorem Stt.leave (S : Stt G A σ g (τ ++ mkT vs bk) H ω) (hl : vs.length = bk.length) (S' : Stt G (maskA H (lentx τ.length ω) A.pin) σ' g' (τ ++ mkT vs (outs bk)) H' ω') :
    Stt G A σ' g' (τ ++ mkT vs bk) H' (unlent τ.length H ω ω') := by
  have hl2 : vs.length = (outs bk).length := by rw [outs_len]; exact hl
  have st := S'.stay
  -- what was lent was another's meanwhile
  have lx : ∀ a o j, H a = some o → ω a = some (.t j) → τ.length ≤ j → ω' a = some .x := fun a o j h1 h2 h3 => S'.fx a (by rw [maskA_w h1]; exact lentx_t h2 h3)
  have own : ∀ a u, ω' a = some u → u ≠ .x → unlent τ.length H ω ω' a = some u := fun a u h ne => by
    rcases unlent_cases (k := τ.length) (H := H) (ω := ω) (ω' := ω') a with e | ⟨o, j, h1, h2, h3, _⟩
    · rw [e]; exact h
    · rw [lx a o j h1 h2 h3] at h
      injection h with h
      exact absurd h.symm ne
  have ex : Ext H' ω' H' (unlent τ.length H ω ω') := fun a o h n => by
    refine ⟨h, ?_⟩
    rcases unlent_cases (k := τ.length) (H := H) (ω := ω) (ω' := ω') a with e | ⟨o, j, h1, h2, h3, _⟩
    · rw [e]; exact n
    · rw [lx a o j h1 h2 h3] at n; cases n
  have ex0 : Ext H ω H' (unlent τ.length H ω ω') := fun a o h n => by
    obtain ⟨h1, h2⟩ := st.fz a o h (lentx_none n)
    exact ex a o h1 h2
  refine ⟨S'.len, fun i w h => ?_, fun j v w t h => ?_, fun j j' v v' w w' i h h' => S.tie j j' v v' w w' i h h', S'.pin, S.dom, fun a o h z => ?_, fun a h => ?_, fun a h1 h => ?_⟩
  · obtain ⟨v, h1, h2⟩ := S'.slot i w h
    exact ⟨v, h1, h2.ren ex fun a q => own a _ q nofun⟩
  · rcases tmp_cases hl h with ⟨h1, h2⟩ | ⟨i, rfl, h1, h2⟩
    · obtain ⟨h3, h4⟩ := S'.temp j v w t (tmp_lo h2)
      exact ⟨h3.ren ex fun a q => own a _ q nofun, h4⟩
    · have h3 := (S.temp _ v w t h).1
      have h5 : (outs bk)[i]? = some (W.out, t) := by
        unfold outs
        rw [List.getElem?_map, h2]
        rfl
      refine ⟨h3.mono ex0 fun a u p q => ⟨st.lx a u p (lentx_t q (by omega)), unlent_t p q (by omega)⟩, (S'.temp _ v .out t (tmp_at hl2 h1 h5)).2⟩
  · have h3 := S.fr a o h z
    rcases z with z | z
    · exact (st.fz a o h3 (lentx_none (S.fn a (by rw [h]; exact nofun) z))).1
    · exact st.lx a o h3 (lentx_x (S.fx a z))
  · obtain ⟨o, h2⟩ := Option.ne_none_iff_exists'.mp (S.dom a (by rw [h]; exact nofun))
    have h3 := S.fr a o h2 (.inr h)
    have h4 := S.fx a h
    have h5 : ω' a = some .x := S'.fx a (by rw [maskA_w h3]; exact lentx_x h4)
    rcases unlent_cases (k := τ.length) (H := H) (ω := ω) (ω' := ω') a with e | ⟨o, j, q1, q2, _⟩
    · rw [e]; exact h5
    · rw [h4] at q2; cases q2
  · obtain ⟨o, h2⟩ := Option.ne_none_iff_exists'.mp h1
    exact (ex0 a o (S.fr a o h2 (.inl h)) (S.fn a h1 h)).2
/-- a walk over data, as long as what was frozen or lent at its start stays -/
def Iter (G : Gm) (H0 : Hp) (w0 : Om) (J : It) (ds : List D) : Prop := ∃ Gd Y, Walk J ds.length Gd Y ∧ (∀ H ω, Stay H0 w0 H ω → Gd H) ∧
  ∀ i H x H' ω d, ds[i]? = some d → Stay H0 w0 H ω → Y i H x H' → ∃ ω', Grow H ω H' ω' ∧ Dat G ω' H' d x
theorem Stay.ext {H0 : Hp} {w0 : Om} (s : Stay H0 w0 H ω) : Ext H0 w0 H ω := s.fz
theorem Stay.lst {H0 : Hp} {w0 : Om} {a : Addr} {vs : List V} (s : Stay H0 w0 H ω) (h : H0 a = some (.lst vs)) (hw : w0 a = none ∨ w0 a = some .x) : H a = some (.lst vs) := by
  rcases hw with hw | hw
  · exact (s.fz a _ h hw).1
  · exact s.lx a _ h hw
theorem iter_list {K : PySem.W.Frag} {H0 : Hp} {w0 : Om} {a : Addr} {us : List V} {ds : List D} (h : H0 a = some (.lst us)) (hw : w0 a = none ∨ w0 a = some .x) (hd : Dats G w0 H0 ds us) : Iter G H0 w0 (Itl K a) ds := by
  refine ⟨fun H => SqL K H a us, YAt us, by rw [hd.length]; exact walk_list, fun H ω s => SqL.of (s.lst h hw), fun i H x H' ω d hi s hy => ?_⟩
  obtain ⟨rfl, hx⟩ := hy
  obtain ⟨v, h1, h2⟩ := hd.get hi
  rw [h1] at hx
  cases hx
  exact ⟨ω, Grow.refl _ _, Dat.mono s.ext _ _ h2⟩
theorem iter_tup {H0 : Hp} {w0 : Om} {a : Addr} {us : List V} {ds : List D} (h : TupAt G.K H0 w0 a us) (hd : Dats G w0 H0 ds us) : Iter G H0 w0 (Itt G.K a) ds := by
  refine ⟨fun H => SqT G.K H a us, YAt us, by rw [hd.length]; exact walk_tup, fun H ω s => TupAt.sq (ω := ω) (h.imp s.ext.rd fun z => z), fun i H x H' ω d hi s hy => ?_⟩
  obtain ⟨rfl, hx⟩ := hy
  obtain ⟨v, h1, h2⟩ := hd.get hi
  rw [h1] at hx
  cases hx
  exact ⟨ω, Grow.refl _ _, Dat.mono s.ext _ _ h2⟩
theorem iter_ro {H0 : Hp} {w0 : Om} {a : Addr} {us : List V} {ds : List D} (h : LstAt G.K H0 w0 a us) (hd : Dats G w0 H0 ds us) : Iter G H0 w0 (Itl G.K a) ds := by
  refine ⟨fun H => SqL G.K H a us, YAt us, by rw [hd.length]; exact walk_list, fun H ω s => LstAt.sq (ω := ω) (h.imp s.ext.rd fun z => z), fun i H x H' ω d hi s hy => ?_⟩
  obtain ⟨rfl, hx⟩ := hy
  obtain ⟨v, h1, h2⟩ := hd.get hi
  rw [h1] at hx
  cases hx
  exact ⟨ω, Grow.refl _ _, Dat.mono s.ext _ _ h2⟩
theorem rangeD_len : ∀ (n : Nat) (lo : Int), (rangeD lo n).length = n
  | 0, _ => rfl
  | n + 1, lo => by simp [rangeD, rangeD_len n]
theorem rangeD_get : ∀ (n : Nat) (lo : Int) (i : Nat) (d : D), (rangeD lo n)[i]? = some d → d = .int (lo + i)
  | 0, _, _, _, h => by simp [rangeD] at h
  | n + 1, lo, 0, d, h => by
    simp [rangeD] at h
    subst h
    congr 1
    omega
  | n + 1, lo, i + 1, d, h => by
    have := rangeD_get n (lo + 1) i d (by simpa [rangeD] using h)
    rw [this]
    congr 1
    omega
theorem iter_range {H0 : Hp} {w0 : Om} {lo : Int} {n : Nat} : Iter G H0 w0 (Itr lo n) (rangeD lo n) := by
  refine ⟨_, _, by rw [rangeD_len]; exact walk_range, fun _ _ _ => trivial, fun i H x H' ω d hi s hy => ?_⟩
  obtain ⟨rfl, rfl⟩ := hy
  rw [rangeD_get n lo i d hi]
  exact ⟨ω, Grow.refl _ _, by unfold Dat; rfl⟩
theorem pair_new {d e : D} {x y : V} {T : Addr} (hT : H T = none) (h1 : Dat G ω H d x) (h2 : Dat G ω H e y) : Grow H ω (upd H T (.tup [x, y])) (oset ω T none) ∧ Dat G (oset ω T none) (upd H T (.tup [x, y])) (.tup [d, e]) (.ref T) := by
  refine ⟨Grow.new hT, ?_⟩
  unfold Dat
  exact ⟨T, [x, y], rfl, .inl ⟨.inl upd_same, oset_same⟩, Dats.mono (Grow.new hT).ext _ _ (.cons h1 (.one h2))⟩
theorem zipD_get : ∀ {as bs : List D} {i : Nat} {d : D}, (zipD as bs)[i]? = some d → ∃ a b, as[i]? = some a ∧ bs[i]? = some b ∧ d = .tup [a, b]
  | [], _, i, d, h => by simp [zipD] at h
  | _ :: _, [], i, d, h => by simp [zipD] at h
  | a :: as, b :: bs, 0, d, h => by
    simp [zipD] at h
    exact ⟨a, b, rfl, rfl, h.symm⟩
  | a :: as, b :: bs, i + 1, d, h => by
    obtain ⟨x, y, h1, h2, h3⟩ := zipD_get (as := as) (bs := bs) (i := i) (by simpa [zipD] using h)
    exact ⟨x, y, by simpa using h1, by simpa using h2, h3⟩
theorem zipD_len : ∀ {as bs : List D}, (zipD as bs).length = min as.length bs.length
  | [], bs => by simp [zipD]
  | _ :: _, [] => by simp [zipD]
  | a :: as, b :: bs => by
    have := zipD_len (as := as) (bs := bs)
    simp only [zipD, List.length_cons]
    omega
theorem enumD_get : ∀ {as : List D} {k i : Nat} {d : D}, (enumD k as)[i]? = some d → ∃ a, as[i]? = some a ∧ d = .tup [.int ((k + i : Nat) : Int), a]
  | [], k, i, d, h => by simp [enumD] at h
  | a :: as, k, 0, d, h => by
    simp [enumD] at h
    exact ⟨a, rfl, h.symm⟩
  | a :: as, k, i + 1, d, h => by
    obtain ⟨x, h1, h2⟩ := enumD_get (as := as) (k := k + 1) (i := i) (by simpa [enumD] using h)
    refine ⟨x, by simpa using h1, ?_⟩
    rw [h2]
    have : k + 1 + i = k + (i + 1) := by omega
    rw [this]
theorem enumD_len : ∀ {as : List D} {k : Nat}, (enumD k as).length = as.length
  | [], k => rfl
  | a :: as, k => by simp [enumD, enumD_len (as := as)]
theorem iter_enum {K : PySem.W.Frag} {H0 : Hp} {w0 : Om} {a : Addr} {us : List V} {ds : List D} (h : H0 a = some (.lst us)) (hw : w0 a = none ∨ w0 a = some .x) (hd : Dats G w0 H0 ds us) : Iter G H0 w0 (Ite K a) (enumD 0 ds) := by
  refine ⟨_, _, by rw [enumD_len, hd.length]; exact walk_enum (K := K) (a := a) (xs := us), fun H ω s => SqL.of (s.lst h hw), fun i H x H' ω d hi s hy => ?_⟩
  obtain ⟨T, y, z, rfl, h1, rfl, h2, h3⟩ := hy
  obtain ⟨e, h4, rfl⟩ := enumD_get hi
  obtain ⟨v, h5, h6⟩ := hd.get h4
  have h3 : us[i]? = some z := h3
  rw [h5] at h3
  cases h3
  have h2 : some (V.int (i : Nat)) = some y := h2
  cases h2
  refine ⟨_, pair_new h1 ?_ (Dat.mono s.ext _ _ h6)⟩
  unfold Dat
  simp
end
end Ev

set_option Elab.async false
set_option linter.all false
set_option maxRecDepth 100000
set_option maxHeartbeats 4000000
namespace Ev
open PySem PySem.Spec PyProof.Rows L2 RZ
section
variable {G : Gm} {A : Amb} {σ σ' : L2.St} {g g' : Sg} {τ : Tm} {H H' : Hp} {ω ω' : Om} {k : Nat}
theorem iter_str {H0 : Hp} {w0 : Om} {z : Str} : Iter G H0 w0 (Its z) (z.cps.toList.map fun c => D.str ⟨#[c]⟩) := by
  refine ⟨_, _, by rw [List.length_map, Array.length_toList]; exact walk_str, fun _ _ _ => trivial, fun i H x H' ω d hi s hy => ?_⟩
  obtain ⟨rfl, c, hc, rfl⟩ := hy
  rw [List.getElem?_map, Array.getElem?_toList, hc] at hi
  cases hi
  exact ⟨ω, Grow.refl _ _, by unfold Dat; rfl⟩
theorem rangeDC_len {c : Int} : ∀ (n : Nat) (lo : Int), (rangeDC c lo n).length = n
  | 0, _ => rfl
  | n + 1, lo => by simp [rangeDC, rangeDC_len n]
theorem rangeDC_get {c : Int} : ∀ (n : Nat) (lo : Int) (i : Nat) (d : D), (rangeDC c lo n)[i]? = some d → d = .int (lo + (i : Nat) * c)
  | 0, _, _, _, h => by simp [rangeDC] at h
  | n + 1, lo, 0, d, h => by
    simp [rangeDC] at h
    subst h
    simp
  | n + 1, lo, i + 1, d, h => by
    have := rangeDC_get n (lo + c) i d (by simpa [rangeDC] using h)
    rw [this]
    congr 1
    have : ((i + 1 : Nat) : Int) = (i : Int) + 1 := by omega
    rw [this, Int.add_mul]
    omega
theorem iter_rangeC {H0 : Hp} {w0 : Om} {lo c : Int} {n : Nat} : Iter G H0 w0 (Itc lo c n) (rangeDC c lo n) := by
  refine ⟨_, _, by rw [rangeDC_len]; exact walk_rangeC, fun _ _ _ => trivial, fun i H x H' ω d hi s hy => ?_⟩
  obtain ⟨rfl, rfl⟩ := hy
  rw [rangeDC_get n lo i d hi]
  exact ⟨ω, Grow.refl _ _, by unfold Dat; rfl⟩
theorem iter_zip {K : PySem.W.Frag} {H0 : Hp} {w0 : Om} {a b : Addr} {us vs : List V} {ds es : List D} (h : H0 a = some (.lst us)) (hw : w0 a = none ∨ w0 a = some .x) (hd : Dats G w0 H0 ds us) (h' : H0 b = some (.lst vs)) (hw' : w0 b = none ∨ w0 b = some .x) (hd' : Dats G w0 H0 es vs) :
    Iter G H0 w0 (Itz K a b) (zipD ds es) := by
  refine ⟨_, _, walk_zip (K := K) (a := a) (b := b) (xs := us) (ys := vs) (by rw [zipD_len, hd.length, hd'.length]), fun H ω s => ⟨SqL.of (s.lst h hw), SqL.of (s.lst h' hw')⟩, fun i H x H' ω d hi s hy => ?_⟩
  obtain ⟨T, y, z, rfl, h1, rfl, h2, h3⟩ := hy
  obtain ⟨e1, e2, h4, h5, rfl⟩ := zipD_get hi
  obtain ⟨v, h6, h7⟩ := hd.get h4
  obtain ⟨u, h8, h9⟩ := hd'.get h5
  have h2 : us[i]? = some y := h2
  have h3 : vs[i]? = some z := h3
  rw [h6] at h2
  cases h2
  rw [h8] at h3
  cases h3
  exact ⟨_, pair_new h1 (Dat.mono s.ext _ _ h7) (Dat.mono s.ext _ _ h9)⟩
theorem walk_zipT {K : PySem.W.Frag} {a b : Addr} {xs ys : List V} {n : Nat} (hn : n = min xs.length ys.length) : Walk (ItzT K a b) n (fun H => SqT K H a xs ∧ SqT K H b ys) (YPair (fun i => xs[i]?) (fun i => ys[i]?)) := by
  subst hn
  refine ⟨fun i _ hi q => ?_, fun _ q => ⟨xs, ys, q.1, q.2, by omega⟩, fun i H v H' _ q y => ?_⟩
  · have h1 : i < xs.length := by omega
    have h2 : i < ys.length := by omega
    exact ⟨xs, ys, xs[i], ys[i], q.1, q.2, by simp [h1], by simp [h2]⟩
  · obtain ⟨T, x, z, h1, h2, h3, h4, h5⟩ := y
    exact ⟨T, x, z, h1, h2, h3, h4 xs q.1, h5 ys q.2⟩
theorem iter_zipT {H0 : Hp} {w0 : Om} {a b : Addr} {us vs : List V} {ds es : List D} (h : TupAt G.K H0 w0 a us) (hd : Dats G w0 H0 ds us) (h' : TupAt G.K H0 w0 b vs) (hd' : Dats G w0 H0 es vs) :
    Iter G H0 w0 (ItzT G.K a b) (zipD ds es) := by
  refine ⟨_, _, walk_zipT (K := G.K) (a := a) (b := b) (xs := us) (ys := vs) (by rw [zipD_len, hd.length, hd'.length]), fun H ω s => ⟨TupAt.sq (ω := ω) (h.imp s.ext.rd fun z => z), TupAt.sq (ω := ω) (h'.imp s.ext.rd fun z => z)⟩, fun i H x H' ω d hi s hy => ?_⟩
  obtain ⟨T, y, z, rfl, h1, rfl, h2, h3⟩ := hy
  obtain ⟨e1, e2, h4, h5, rfl⟩ := zipD_get hi
  obtain ⟨v, h6, h7⟩ := hd.get h4
  obtain ⟨u, h8, h9⟩ := hd'.get h5
  have h2 : us[i]? = some y := h2
  have h3 : vs[i]? = some z := h3
  rw [h6] at h2
  cases h2
  rw [h8] at h3
  cases h3
  exact ⟨_, pair_new h1 (Dat.mono s.ext _ _ h7) (Dat.mono s.ext _ _ h9)⟩
theorem lentx_or {a : Addr} {j : Nat} (hj : k ≤ j) (h : ω a = none ∨ ω a = some (.t j)) : lentx k ω a = none ∨ lentx k ω a = some .x := by
  rcases h with h | h
  · exact .inl (lentx_none h)
  · exact .inr (lentx_t h hj)
theorem lst_at {j : Nat} {w : W} {v : V} {ds : List D} (hj : k ≤ j) (h : EntW G ω H (.t j) w v) (e : w.d = some (.lst ds)) : ∃ a us, v = .ref a ∧ H a = some (.lst us) ∧ (lentx k ω a = none ∨ lentx k ω a = some .x) ∧ Dats G (lentx k ω) H ds us := by
  cases w with
  | val x =>
    have e' : x = .lst ds := Option.some.inj e
    subst e'
    have h : Dat G ω H (.lst ds) v := h
    unfold Dat at h
    obtain ⟨a, us, rfl, ⟨h1, h2⟩, h3⟩ := h
    exact ⟨a, us, rfl, h1, .inl (lentx_none h2), Dats.mono lentx_ext _ _ h3⟩
  | lst xs =>
    have e' : D.lst xs = .lst ds := Option.some.inj e
    cases e'
    obtain ⟨a, us, rfl, h1, h2, h3⟩ := h
    exact ⟨a, us, rfl, h1, .inr (lentx_t h2 hj), Dats.mono lentx_ext _ _ h3⟩
  | ins c fs => cases e
  | out => cases e
theorem tup_at {o : Own} {w : W} {v : V} {ds : List D} (h : EntW G ω H o w v) (e : w.d = some (.tup ds)) : ∃ a us, v = .ref a ∧ TupAt G.K H (lentx k ω) a us ∧ Dats G (lentx k ω) H ds us := by
  have h := h.vd e
  have h : Dat G ω H (.tup ds) v := h
  unfold Dat at h
  obtain ⟨a, us, rfl, h1, h2⟩ := h
  exact ⟨a, us, rfl, h1.imp (Ext.rd lentx_ext) fun z => z, Dats.mono lentx_ext _ _ h2⟩
theorem ro_at {o : Own} {w : W} {v : V} {ds : List D} (h : EntW G ω H o w v) (e : w.d = some (.ro ds)) : ∃ a us, v = .ref a ∧ LstAt G.K H (lentx k ω) a us ∧ Dats G (lentx k ω) H ds us := by
  have h := h.vd e
  have h : Dat G ω H (.ro ds) v := h
  unfold Dat at h
  obtain ⟨a, us, rfl, h1, h2⟩ := h
  exact ⟨a, us, rfl, h1.imp (Ext.rd lentx_ext) fun z => z, Dats.mono lentx_ext _ _ h2⟩
end
/-- a list, a tuple, a text -/
def iSeq (K : PySem.W.Frag) (tl : TE) : TI := fun σ H R => tl σ H fun x H1 => (∃ a, x = .ref a ∧ (∃ xs, SqL K H1 a xs) ∧ R (Itl K a) H1) ∨ (∃ a, x = .ref a ∧ (∃ xs, SqT K H1 a xs) ∧ R (Itt K a) H1) ∨ ∃ z, x = .str z ∧ R (Its z) H1
theorem pi_seq {X : Cx} {tg l : Expr} {tl : TE} (hl : PE X l tl) : PI X tg l (iSeq X.K tl) := by
  refine ⟨fun pins s σ H R I h => ?_⟩
  refine thn (hl.run pins s σ H _ I h) fun v s1 ⟨x, H1, I1, r1, q1⟩ => ?_
  have fr : ∀ b ∈ [s1.heap.objs.size], FpOk X pins H1 b := fun b hb => by
    have e : b = s1.heap.objs.size := by simpa using hb
    subst e
    exact I1.fpOk (Nat.le_refl _) (I1.hok.fresh (Nat.le_refl _))
  rcases q1 with ⟨a, e, ⟨xs, hq⟩, q⟩ | ⟨a, e, ⟨xs, hq⟩, q⟩ | ⟨z, e, q⟩
  · subst e
    cases r1
    obtain ⟨its, rv, p, hz⟩ := I1.list hq
    refine wpAny_pyIter_list p.isList ?_
    exact ⟨s1.heap.objs.size, [s1.heap.objs.size], _, _, H1, rfl, I1.kept (t' := s1.toks) fun b o e => Heap.get?_push_of_some _ e, turn_list a _, ⟨_, Heap.get?_push_size _ rfl, rfl, rfl⟩, fr, q⟩
  · subst e
    cases r1
    obtain ⟨its, rv, p, hz⟩ := I1.tuple hq
    refine wpAny_pyIter_tuple (show s1.heap.IsTuple a its.toArray from p) ?_
    exact ⟨s1.heap.objs.size, [s1.heap.objs.size], _, _, H1, rfl, I1.kept (t' := s1.toks) fun b o e => Heap.get?_push_of_some _ e, turn_tuple a _, ⟨_, Heap.get?_push_size _ rfl, rfl, rfl⟩, fr, q⟩
  · subst e
    obtain ⟨t, rfl⟩ := r1
    cases ha : z.cps.all (· < 128)
    · exact wpAny_pyIter_wide ha (pi_one (tk := s1.toks) I1 _ (turn_str _ z t "str_iterator" (.inr rfl)) ⟨_, Heap.get?_push_size _ rfl, rfl, rfl⟩ q)
    · exact wpAny_pyIter_ascii ha (pi_one (tk := s1.toks) I1 _ (turn_str _ z t "str_ascii_iterator" (.inl rfl)) ⟨_, Heap.get?_push_size _ rfl, rfl, rfl⟩ q)
theorem piImp {X : Cx} {tg e : Expr} {t t' : TI} (h : PI X tg e t) (i : ∀ σ H R, t' σ H R → t σ H R) : PI X tg e t' := ⟨fun pins s σ H R I q => h.run pins s σ H R I (i σ H R q)⟩
/-- what is wanted of what is walked -/
def TIt (G : Gm) (A : Amb) (Wx : WX) (m : Sg → Option (ER (List D × List (W × Option Nat)))) : TI := fun σ H R => ∃ g τ ω, Stt G A σ g τ H ω ∧ Out (fun a g' => ∀ vs J H' ω', vs.length = a.2.length → Stt G A σ g' (τ ++ mkT vs a.2) H' ω' → Iter G H' (lentx τ.length ω') J a.1 → R J H') (Kx G A Wx σ τ) (m g)
section
variable {G : Gm} {A : Amb} {Wx : WX} {F : Fe} {X : Cx} {tg : Expr}
theorem one_mkT {v : V} {a : W × Option Nat} : mkT [v] [a] = [(v, a.1, a.2)] := rfl
theorem piSeq {e : Expr} {c : CE} (hK : X.K = G.K) (he : PE X e (TAr G A Wx F c)) : PI X tg e (TIt G A Wx (evI F (.seq c))) := by
  refine piImp (pi_seq he) fun σ H R h => ?_
  obtain ⟨g, τ, ω, S, h⟩ := h
  simp only [evI] at h
  refine ⟨g, τ, ω, S, h.bind.imp (fun a g1 h v H1 ω1 S1 => ?_) fun _ _ h => h⟩
  obtain ⟨d, hd, h⟩ := h.ofO
  obtain ⟨xs, hx, h⟩ := h.ofO
  have en := S1.last.1
  have go : ∀ J, Iter G H1 (lentx τ.length ω1) J xs → R J H1 := fun J it => h [v] J H1 ω1 rfl S1 it
  rw [hK]
  cases d with
  | tup ds =>
    cases hx
    obtain ⟨a, us, rfl, h1, h2⟩ := tup_at (k := τ.length) en hd
    exact .inr (.inl ⟨a, rfl, ⟨us, h1.sq⟩, go _ (iter_tup h1 h2)⟩)
  | lst ds =>
    cases hx
    obtain ⟨a, us, rfl, h1, h2, h3⟩ := lst_at (Nat.le_refl _) en hd
    exact .inl ⟨a, rfl, ⟨us, SqL.of h1⟩, go _ (iter_list h1 h2 h3)⟩
  | ro ds =>
    cases hx
    obtain ⟨a, us, rfl, h1, h2⟩ := ro_at (k := τ.length) en hd
    exact .inl ⟨a, rfl, ⟨us, h1.sq⟩, go _ (iter_ro h1 h2)⟩
  | str z =>
    cases hx
    have h1 : Dat G ω1 H1 (.str z) v := en.vd hd
    unfold Dat at h1
    exact .inr (.inr ⟨z, h1, go _ iter_str⟩)
  | _ => cases hx
theorem piEnum {e : Expr} {c : CE} {elts : List Expr} {kk : Nat} {p pos tpos : Pos} (hK : X.K = G.K) (hg : Gl X "enumerate") (hm : X.mg "enumerate" = none) (he : PE X e (TAr G A Wx F c)) (hs : starEach [e] X.env = [(false, eval e X.env)]) :
    PI X (.Tuple elts kk tpos) (.Call (.Name "enumerate" p) [e] [] pos) (TIt G A Wx (evI F (.enum c))) := by
  refine piImp (pi_enum hg hm (pa_cons he pa_nil (by rw [hs]; rfl)) hs) fun σ H R h => ?_
  obtain ⟨g, τ, ω, S, h⟩ := h
  simp only [evI] at h
  refine ⟨g, τ, ω, S, h.bind.imp (fun a g1 h v H1 ω1 S1 => ?_) fun _ _ h => h⟩
  obtain ⟨d, hd, h⟩ := h.ofO
  obtain ⟨xs, hx, h⟩ := h.ofO
  have en := S1.last.1
  show ∃ a xs, [v] = [.ref a] ∧ SqL X.K H1 a xs ∧ R (Ite X.K a) H1
  rw [hK]
  cases d with
  | lst ds =>
    cases hx
    obtain ⟨a, us, rfl, h1, h2, h3⟩ := lst_at (Nat.le_refl _) en hd
    exact ⟨a, us, rfl, SqL.of h1, h [_] _ H1 ω1 rfl S1 (iter_enum h1 h2 h3)⟩
  | _ => cases hx
theorem piZip {e e2 : Expr} {c c2 : CE} {elts : List Expr} {kk : Nat} {p pos tpos : Pos} (hK : X.K = G.K) (hg : Gl X "zip") (hm : X.mg "zip" = none) (he : PE X e (TAr G A Wx F c)) (he2 : PE X e2 (TAr G A Wx F c2))
    (hs : starEach [e, e2] X.env = (false, eval e X.env) :: starEach [e2] X.env) (hs2 : starEach [e2] X.env = (false, eval e2 X.env) :: starEach [] X.env) (hpl : (backTo pos (starEach [e2] X.env)).any (·.1) = false) :
    PI X (.Tuple elts kk tpos) (.Call (.Name "zip" p) [e, e2] [] pos) (TIt G A Wx (evI F (.zip c c2))) := by
  refine piImp (pi_zipA hg hm (pa_cons he (pa_cons he2 pa_nil hs2) hs) hs hpl) fun σ H R h => ?_
  obtain ⟨g, τ, ω, S, h⟩ := h
  simp only [evI] at h
  refine ⟨g, τ, ω, S, h.bind.imp (fun a g1 h v H1 ω1 S1 => ?_) fun _ _ h => h⟩
  refine ⟨g1, _, ω1, S1, h.bind.imp (fun b g2 h v2 H2 ω2 S2 => ?_) fun _ _ h => h.less⟩
  obtain ⟨d, hd, h⟩ := h.ofO
  obtain ⟨d2, hd2, h⟩ := h.ofO
  obtain ⟨xs, hx, h⟩ := h.ofO
  have en := S2.less.last.1
  have en2 := S2.last.1
  have S3 : Stt G A σ g2 (τ ++ mkT [v, v2] [a, b]) H2 ω2 := by
    have e : τ ++ mkT [v, v2] [a, b] = (τ ++ [(v, a.1, a.2)]) ++ [(v2, b.1, b.2)] := by simp [mkT]
    rw [e]; exact S2
  show ∃ a b xs ys, [v, v2] = [.ref a, .ref b] ∧ _
  rw [hK]
  cases d with
  | lst ds =>
    cases d2 with
    | lst es =>
      cases hx
      obtain ⟨a, us, rfl, h1, h2, h3⟩ := lst_at (Nat.le_refl _) en hd
      obtain ⟨b, us2, rfl, k1, k2, k3⟩ := lst_at (k := τ.length) (by simp) en2 hd2
      exact ⟨a, b, us, us2, rfl, .inl ⟨SqL.of h1, SqL.of k1, h [_, _] _ H2 ω2 rfl S3 (iter_zip h1 h2 h3 k1 k2 k3)⟩⟩
    | _ => cases hx
  | tup ds =>
    cases d2 with
    | tup es =>
      cases hx
      obtain ⟨a, us, rfl, h1, h2⟩ := tup_at (k := τ.length) en hd
      obtain ⟨b, us2, rfl, k1, k2⟩ := tup_at (k := τ.length) en2 hd2
      exact ⟨a, b, us, us2, rfl, .inr ⟨h1.sq, k1.sq, h [_, _] _ H2 ω2 rfl S3 (iter_zipT h1 h2 k1 k2)⟩⟩
    | _ => cases hx
  | _ => cases hx
def iRng3r (R : It → Hp → Prop) : List V → Hp → Prop := fun vs H1 => ∃ (i j c : Int) (n : Nat), vs = [.int i, .int j, .int c] ∧ RgC i j c n ∧ R (Itc i c n) H1
theorem piRng {es : CA} {σ : L2.St} {H : Hp} {R : It → Hp → Prop} (h : TIt G A Wx (evI F (.range es)) σ H R) : TAv G A Wx F es σ H fun vs H1 => (∃ j : Int, vs = [.int j] ∧ -(2 ^ 62) ≤ j ∧ j < 2 ^ 62 ∧ R (Itr 0 j.toNat) H1) ∨ (∃ i j : Int, vs = [.int i, .int j] ∧ (-(2 ^ 62) ≤ i ∧ i < 2 ^ 62 ∧ -(2 ^ 62) ≤ j ∧ j < 2 ^ 62) ∧ R (Itr i (j - i).toNat) H1) ∨ iRng3r R vs H1 := by
  obtain ⟨g, τ, ω, S, h⟩ := h
  simp only [evI] at h
  refine ⟨g, τ, ω, S, h.bind.imp (fun as g1 h vs H1 ω1 hl S1 => ?_) fun _ _ h => h⟩
  obtain ⟨ds, hd, h⟩ := h.ofO
  obtain ⟨xs, hx, h⟩ := h.ofO
  have hv := Stt.vds hl S1 hd
  obtain ⟨ω2, S2, e2⟩ := S1.back hl
  have go : ∀ J, Iter G H1 (lentx τ.length ω2) J xs → R J H1 := fun J it => h [] J H1 ω2 rfl (by simpa [mkT] using S2) it
  unfold rangeOf at hx
  split at hx
  · rename_i j
    obtain ⟨v, r, rfl, h1, h2⟩ := hv
    have h1 : Dat G ω1 H1 (.int j) v := h1
    unfold Dat at h1
    have h2 : r = [] := h2
    subst h1 h2
    by_cases hb : j < 2 ^ 62 ∧ -(2 ^ 62) ≤ j
    · rw [if_pos hb] at hx
      cases hx
      exact .inl ⟨j, rfl, hb.2, hb.1, go _ iter_range⟩
    · rw [if_neg hb] at hx; cases hx
  · rename_i i j
    obtain ⟨v, r, rfl, h1, v2, r2, rfl, h2, h3⟩ := hv
    have h1 : Dat G ω1 H1 (.int i) v := h1
    have h2 : Dat G ω1 H1 (.int j) v2 := h2
    unfold Dat at h1 h2
    have h3 : r2 = [] := h3
    subst h1 h2 h3
    by_cases hb : (j < 2 ^ 62 ∧ -(2 ^ 62) ≤ j) ∧ (i < 2 ^ 62 ∧ -(2 ^ 62) ≤ i)
    · rw [if_pos hb] at hx
      cases hx
      exact .inr (.inl ⟨i, j, rfl, ⟨hb.2.2, hb.2.1, hb.1.2, hb.1.1⟩, go _ iter_range⟩)
    · rw [if_neg hb] at hx; cases hx
  · rename_i i j c
    obtain ⟨v, r, rfl, h1, v2, r2, rfl, h2, v3, r3, rfl, h4, h3⟩ := hv
    have h1 : Dat G ω1 H1 (.int i) v := h1
    have h2 : Dat G ω1 H1 (.int j) v2 := h2
    have h4 : Dat G ω1 H1 (.int c) v3 := h4
    unfold Dat at h1 h2 h4
    have h3 : r3 = [] := h3
    subst h1 h2 h3 h4
    obtain ⟨⟨⟨c1, c2⟩, c3, c4⟩, hx⟩ := ifSome hx
    cases hx
    exact .inr (.inr ⟨i, j, c, _, rfl, ⟨c1, c2, c3, (Int.toNat_of_nonneg c4).symm⟩, go _ iter_rangeC⟩)
  · cases hx
theorem piRange1 {a : Expr} {c : CE} {p pos : Pos} (hg : Gl X "range") (hm : X.mg "range" = none) (ha : PE X a (TAr G A Wx F c)) (hs : starEach [a] X.env = [(false, eval a X.env)]) : PI X tg (.Call (.Name "range" p) [a] [] pos) (TIt G A Wx (evI F (.range (.cons c .nil)))) :=
  piImp (pi_range1 hg hm (pa_cons ha pa_nil (by rw [hs]; rfl)) hs) fun σ H R h => tg_imp (tas_cons (piRng h)) fun v H1 h1 => by
    rcases tas_nil h1 with z | ⟨i, j, e, _⟩ | ⟨i, j, c, n, e, _⟩
    · exact z
    · cases e
    · cases e
theorem piRange2 {a b : Expr} {c c2 : CE} {p pos : Pos} (hg : Gl X "range") (hm : X.mg "range" = none) (ha : PE X a (TAr G A Wx F c)) (hb : PE X b (TAr G A Wx F c2)) (hs : starEach [a, b] X.env = [(false, eval a X.env), (false, eval b X.env)]) (hs2 : starEach [b] X.env = [(false, eval b X.env)]) :
    PI X tg (.Call (.Name "range" p) [a, b] [] pos) (TIt G A Wx (evI F (.range (.cons c (.cons c2 .nil))))) :=
  piImp (pi_range2 hg hm (pa_cons ha (pa_cons hb pa_nil (by rw [hs2]; rfl)) (by rw [hs, hs2])) hs hs2) fun σ H R h => tg_imp (tas_cons (piRng h)) fun v H1 h1 => tg_imp (tas_cons h1) fun v2 H2 h2 => by
    rcases tas_nil h2 with ⟨j, e, _⟩ | z | ⟨i, j, c, n, e, _⟩
    · cases e
    · exact z
    · cases e
theorem piRange3 {a b c : Expr} {ca cb cc : CE} {p pos : Pos} (hg : Gl X "range") (hm : X.mg "range" = none) (ha : PE X a (TAr G A Wx F ca)) (hb : PE X b (TAr G A Wx F cb)) (hc : PE X c (TAr G A Wx F cc)) (hs : starEach [a, b, c] X.env = (false, eval a X.env) :: starEach [b, c] X.env)
    (hs2 : starEach [b, c] X.env = (false, eval b X.env) :: starEach [c] X.env) (hs3 : starEach [c] X.env = (false, eval c X.env) :: starEach [] X.env) (hpl : (backTo pos (starEach [b, c] X.env)).any (·.1) = false) :
    PI X tg (.Call (.Name "range" p) [a, b, c] [] pos) (TIt G A Wx (evI F (.range (.cons ca (.cons cb (.cons cc .nil)))))) :=
  piImp (pi_range3 hg hm (pa_cons ha (pa_cons hb (pa_cons hc pa_nil hs3) hs2) hs) hs hpl) fun σ H R h => tg_imp (tas_cons (piRng h)) fun v H1 h1 => tg_imp (tas_cons h1) fun v2 H2 h2 => tg_imp (tas_cons h2) fun v3 H3 h3 => by
    rcases tas_nil h3 with ⟨j, e, _⟩ | ⟨i, j, e, _⟩ | z
    · cases e
    · cases e
    · exact z
end
end Ev

set_option Elab.async false
set_option linter.all false
set_option maxRecDepth 100000
set_option maxHeartbeats 4000000
namespace Ev
open PySem PySem.Spec PyProof.Rows L2
def OutS (nx : Sg → Prop) (rt : W → Sg → Prop) (kx : Exn → Sg → Prop) : Option SR → Prop
  | some (.nx g) => nx g
  | some (.ret w g) => rt w g
  | some (.exc e g) => kx e g
  | none => False
section
variable (G : Gm) (A : Amb) (Wx : WX)
def Cn (τ : Tm) (D : Ends) : Sg → Prop := fun g' => ∀ σ' H' ω', Stt G A σ' g' τ H' ω' → D.nx σ' H'
def Cr (τ : Tm) (D : Ends) : W → Sg → Prop := fun w g' => ∀ σ' v H' ω', Stt G A σ' g' (τ ++ [(v, w, none)]) H' ω' → D.rt v H'
def Cx' (τ : Tm) : Exn → Sg → Prop := fun e g' => ∀ σ' cls d H' ω', Stt G A σ' g' τ H' ω' → ExnOk G ω' H' e cls d → Wx cls d σ' H'
def TSs (m : Sg → Option SR) : TS := fun D σ H => ∃ g τ ω, Stt G A σ g τ H ω ∧ OutS (Cn G A τ D) (Cr G A τ D) (Cx' G A Wx τ) (m g)
end
def APin (A : Amb) (pin : List Nat) : Prop := ∀ p ∈ A.pin, p.1 ∈ pin
section
variable {G : Gm} {A : Amb} {Wx : WX} {F : Fe} {pin : List Nat} {X : Cx}
theorem OutS.imp {nx nx' : Sg → Prop} {rt rt' : W → Sg → Prop} {kx kx' : Exn → Sg → Prop} {m : Option SR} (h : OutS nx rt kx m) (a : ∀ g, nx g → nx' g) (b : ∀ w g, rt w g → rt' w g) (c : ∀ e g, kx e g → kx' e g) : OutS nx' rt' kx' m := by
  cases m with
  | none => exact h
  | some r =>
    cases r with
    | nx g => exact a _ h
    | ret w g => exact b _ _ h
    | exc e g => exact c _ _ h
theorem OutS.bS {α : Type} {nx : Sg → Prop} {rt : W → Sg → Prop} {kx : Exn → Sg → Prop} {m : Option (ER α)} {f : α → Sg → Option SR} (h : OutS nx rt kx (bS m f)) : Out (fun a g => OutS nx rt kx (f a g)) kx m := by
  cases m with
  | none => exact h
  | some r => cases r <;> exact h
theorem OutS.ofO {α : Type} {nx : Sg → Prop} {rt : W → Sg → Prop} {kx : Exn → Sg → Prop} {o : Option α} {f : α → Option SR} (h : OutS nx rt kx (ofO o f)) : ∃ a, o = some a ∧ OutS nx rt kx (f a) := by
  cases o with
  | none => exact h.elim
  | some a => exact ⟨a, rfl, h⟩
theorem OutS.map {nx : Sg → Prop} {rt : W → Sg → Prop} {kx : Exn → Sg → Prop} {o : Option Sg} (h : OutS nx rt kx (o.map .nx)) : ∃ g, o = some g ∧ nx g := by
  cases o with
  | none => exact h.elim
  | some a => exact ⟨a, rfl, h⟩
theorem cx_kx {σ : L2.St} {τ : Tm} {e : Exn} {g : Sg} (h : Cx' G A Wx τ e g) : Kx G A Wx σ τ e g := fun cls d H' ω' S x => h σ cls d H' ω' S x
theorem Cx'.less {τ1 τ2 : Tm} {e : Exn} {g : Sg} (h : Cx' G A Wx τ1 e g) : Cx' G A Wx (τ1 ++ τ2) e g := fun σ' cls d H' ω' S x => h σ' cls d H' ω' S.less x
/-- an expression's value first -/
theorem tev_of {c : CE} {σ : L2.St} {g : Sg} {τ : Tm} {H : Hp} {ω : Om} {f : W → Sg → Option SR} {nx : Sg → Prop} {rt : W → Sg → Prop} {Q : VK} (S : Stt G A σ g τ H ω) (h : OutS nx rt (Cx' G A Wx τ) (Ev.bS (evE F c g) f))
    (k : ∀ w g1 v H1 ω1, Stt G A σ g1 (τ ++ [(v, w, none)]) H1 ω1 → OutS nx rt (Cx' G A Wx τ) (f w g1) → Q v H1) : TEv G A Wx F c σ H Q :=
  ⟨g, τ, ω, S, out_noTie (h.bS.imp (fun w g1 h v H1 ω1 S1 => k w g1 v H1 ω1 S1 h) fun _ _ h => cx_kx h)⟩
theorem storeG_some {i : Nat} {w : W} {g : Sg} {r : SR} (h : storeG pin i w g = some r) : r = .nx (g.set i (some w)) ∧ i < g.length ∧ g[i]? ≠ some (some .out) ∧ i ∉ pin := by
  unfold storeG at h
  split at h
  · cases h
  · rename_i u hne e
    by_cases hp : i ∈ pin
    · rw [if_pos hp] at h; cases h
    · rw [if_neg hp] at h
      cases h
      exact ⟨rfl, lt_of_get e, fun z => by rw [e] at z; cases z; exact hne rfl, hp⟩
  · cases h
theorem store_out {i : Nat} {w : W} {g : Sg} {σ : L2.St} {τ : Tm} {H : Hp} {ω : Om} {v : V} {nx : Sg → Prop} {rt : W → Sg → Prop} {kx : Exn → Sg → Prop} (ap : APin A pin) (S : Stt G A σ g (τ ++ [(v, w, none)]) H ω) (h : OutS nx rt kx (storeG pin i w g)) :
    ∃ ω', Stt G A (σ.set i (some v)) (g.set i (some w)) τ H ω' ∧ Ext H ω H ω' ∧ nx (g.set i (some w)) := by
  cases e : storeG pin i w g with
  | none => rw [e] at h; exact h.elim
  | some r =>
    rw [e] at h
    obtain ⟨rfl, h1, h2, h3⟩ := storeG_some e
    obtain ⟨ω', S', e'⟩ := S.store h1 h2 fun p hp z => h3 (z ▸ ap p hp)
    exact ⟨ω', S', e', h⟩
theorem tss_set {i : Nat} {c : CE} {D : Ends} {σ : L2.St} {H : Hp} (ap : APin A pin) (h : TSs G A Wx (evS F pin (.set i c)) D σ H) : tAsg (TEv G A Wx F c) (gName i) D σ H := by
  obtain ⟨g, τ, ω, S, h⟩ := h
  simp only [evS] at h
  refine tev_of S h fun w g1 v H1 ω1 S1 h => ?_
  obtain ⟨ω2, S2, _, q⟩ := store_out ap S1 h
  exact q _ _ _ S2
def gNs : List Nat → TGs
  | [] => gNil
  | i :: is => gCons (gName i) (gNs is)
theorem Stt.setv {i : Nat} {v : V} {d : D} {σ : L2.St} {g : Sg} {τ : Tm} {H : Hp} {ω : Om} (S : Stt G A σ g τ H ω) (h : Dat G ω H d v) (hi : i < g.length) (ho : g[i]? ≠ some (some .out)) (hp : ∀ p ∈ A.pin, p.1 ≠ i) :
    ∃ ω', Stt G A (σ.set i (some v)) (g.set i (some (.val d))) τ H ω' ∧ Ext H ω H ω' := (S.push (w := .val d) h).store hi ho hp
theorem setAll_ok {τ : Tm} {H : Hp} {Q : L2.St → Hp → Prop} : ∀ {is : List Nat} {ds : List D} {vs : List V} {g g' : Sg} {σ : L2.St} {ω : Om}, (∀ p ∈ A.pin, p.1 ∉ is) → Stt G A σ g τ H ω → Dats G ω H ds vs → setAll is ds g = some g' →
    (∀ σ' ω', Stt G A σ' g' τ H ω' → Q σ' H) → gNs is vs σ H Q
  | [], [], vs, g, g', σ, ω, ap, S, hd, h, q => by
    unfold Dats at hd
    simp [setAll] at h
    subst h
    exact ⟨hd, q _ _ S⟩
  | [], _ :: _, _, _, _, _, _, _, _, _, h, _ => by simp [setAll] at h
  | _ :: _, [], _, _, _, _, _, _, _, _, h, _ => by simp [setAll] at h
  | i :: is, d :: ds, vs, g, g', σ, ω, ap, S, hd, h, q => by
    unfold Dats at hd
    obtain ⟨v, r, rfl, h1, h2⟩ := hd
    unfold setAll at h
    split at h
    · cases h
    · rename_i u hne e
      obtain ⟨ω1, S1, e1⟩ := S.setv (i := i) h1 (lt_of_get e) (fun z => by rw [e] at z; cases z; exact hne rfl) fun p hp z => ap p hp (by rw [z]; simp)
      exact ⟨v, r, rfl, setAll_ok (fun p hp z => ap p hp (List.mem_cons_of_mem _ z)) S1 (Dats.mono e1 _ _ h2) h q⟩
    · cases h
/-- a target of names: one name; a tuple of names -/
def gTgt (K : PySem.W.Frag) (tg : List Nat) : Bool → L2.TG
  | false => (match tg with
    | [i] => gName i
    | _ => fun _ _ _ _ => False)
  | true => gTup K tg.length (gNs tg)
theorem setTgP_ok {tg : List Nat} {tup : Bool} {d : D} {g g' : Sg} {σ : L2.St} {τ : Tm} {H : Hp} {ω : Om} {v : V} {Q : L2.St → Hp → Prop} (hK : X.K = G.K) (ap : APin A pin) (S : Stt G A σ g τ H ω) (hd : Dat G ω H d v) (h : setTgP pin tg tup d g = some g')
    (q : ∀ σ' ω', Stt G A σ' g' τ H ω' → Q σ' H) : gTgt X.K tg tup v σ H Q := by
  unfold setTgP at h
  obtain ⟨hp, h⟩ := ifSome h
  have ap' : ∀ p ∈ A.pin, p.1 ∉ tg := fun p hm z => by
    have := List.all_eq_true.mp hp _ z
    simp at this
    exact this (ap p hm)
  cases tup with
  | false =>
    have h : setAll tg [d] g = some g' := h
    have r := setAll_ok ap' S (Dats.one hd) h q
    cases tg with
    | nil => simp [setAll] at h
    | cons i is =>
      cases is with
      | nil =>
        obtain ⟨v', r', e, h1⟩ := r
        cases e
        obtain ⟨_, h1⟩ : _ ∧ Q _ H := h1
        exact h1
      | cons j js =>
        exfalso
        unfold setAll at h
        split at h
        · cases h
        · simp [setAll] at h
        · cases h
  | true =>
    unfold setTg at h
    dsimp only at h
    split at h
    · rename_i ds
      unfold Dat at hd
      obtain ⟨a, us, rfl, h1, h2⟩ := hd
      refine ⟨a, us, rfl, by rw [hK]; exact h1.sq, ?_, setAll_ok ap' S h2 h q⟩
      have : ∀ {is : List Nat} {ds : List D} {g g' : Sg}, setAll is ds g = some g' → is.length = ds.length := by
        intro is
        induction is with
        | nil =>
          intro ds g g' h
          cases ds with
          | nil => rfl
          | cons d ds => simp [setAll] at h
        | cons i is ih =>
          intro ds g g' h
          cases ds with
          | nil => simp [setAll] at h
          | cons d ds =>
            unfold setAll at h
            split at h
            · cases h
            · simp [ih h]
            · cases h
      rw [← h2.length, ← this h]
    · cases h
theorem tss_setT {is : List Nat} {c : CE} {D : Ends} {σ : L2.St} {H : Hp} (hK : X.K = G.K) (ap : APin A pin) (h : TSs G A Wx (evS F pin (.setT is c)) D σ H) : tAsg (TEv G A Wx F c) (gTgt X.K is true) D σ H := by
  obtain ⟨g, τ, ω, S, h⟩ := h
  simp only [evS] at h
  refine tev_of S h fun w g1 v H1 ω1 S1 h => ?_
  obtain ⟨d, hd, h⟩ := h.ofO
  obtain ⟨g2, hg, h3⟩ := h.map
  have := isV_some hd
  subst this
  exact setTgP_ok hK ap S1.less S1.last.1 hg fun σ' ω' S' => h3 _ _ _ S'
theorem parOf_some {as : List (W × Option Nat)} {ds : List D} (h : parOf as = some ds) : ∃ a b, as = [(.val a, none), (.val b, none)] ∧ ds = [a, b] := by
  unfold parOf at h
  split at h
  · rename_i a b
    cases h
    exact ⟨a, b, rfl, rfl⟩
  · cases h
theorem tss_setP {i j : Nat} {cs : CA} {D : Ends} {σ : L2.St} {H : Hp} (ap : APin A pin) (h : TSs G A Wx (evS F pin (.setP [i, j] cs)) D σ H) : tPar i j (TAv G A Wx F cs) D σ H := by
  obtain ⟨g, τ, ω, S, h⟩ := h
  simp only [evS] at h
  refine ⟨g, τ, ω, S, h.bS.imp (fun as g1 h vs H1 ω1 hl S1 => ?_) fun _ _ h => cx_kx h⟩
  obtain ⟨ds, hd, h⟩ := h.ofO
  obtain ⟨g2, hg, h3⟩ := h.map
  obtain ⟨a, b, rfl, rfl⟩ := parOf_some hd
  unfold setTgP at hg
  obtain ⟨hp, hg⟩ := ifSome hg
  have hg : setAll [i, j] [a, b] g1 = some g2 := hg
  have ap' : ∀ p ∈ A.pin, p.1 ∉ [i, j] := fun p hm z => by
    have := List.all_eq_true.mp hp _ z
    simp at this
    exact this (ap p hm)
  match vs, hl, S1 with
  | [x, y], _, S1 =>
    have e : τ ++ mkT [x, y] [(.val a, none), (.val b, none)] = (τ ++ [(x, .val a, none)]) ++ [(y, .val b, none)] := by simp [mkT]
    rw [e] at S1
    have hx : Dat G ω1 H1 a x := S1.less.last.1
    have hy : Dat G ω1 H1 b y := S1.last.1
    have r := setAll_ok (Q := fun σ' H' => D.nx σ' H') ap' S1.less.less (.cons hx (.one hy)) hg fun σ' ω' S' => h3 _ _ _ S'
    obtain ⟨v, r1, e1, v2, r2, e2, _, h2⟩ := r
    cases e1
    cases e2
    exact ⟨x, y, rfl, h2⟩
theorem parOf3_some {as : List (W × Option Nat)} {ds : List D} (h : parOf3 as = some ds) : ∃ a b c, as = [(.val a, none), (.val b, none), (.val c, none)] ∧ ds = [a, b, c] := by
  unfold parOf3 at h
  split at h
  · cases h
    exact ⟨_, _, _, rfl, rfl⟩
  · cases h
theorem tss_setP3 {i j l : Nat} {cs : CA} {D : Ends} {σ : L2.St} {H : Hp} (ap : APin A pin) (h : TSs G A Wx (evS F pin (.setP3 [i, j, l] cs)) D σ H) : tPar3 i j l (TAv G A Wx F cs) D σ H := by
  obtain ⟨g, τ, ω, S, h⟩ := h
  simp only [evS] at h
  refine ⟨g, τ, ω, S, h.bS.imp (fun as g1 h vs H1 ω1 hl S1 => ?_) fun _ _ h => cx_kx h⟩
  obtain ⟨ds, hd, h⟩ := h.ofO
  obtain ⟨g2, hg, h3⟩ := h.map
  obtain ⟨a, b, c, rfl, rfl⟩ := parOf3_some hd
  unfold setTgP at hg
  obtain ⟨hp, hg⟩ := ifSome hg
  have hg : setAll [i, j, l] [a, b, c] g1 = some g2 := hg
  have ap' : ∀ p ∈ A.pin, p.1 ∉ [i, j, l] := fun p hm z => by
    have := List.all_eq_true.mp hp _ z
    simp at this
    exact this (ap p hm)
  match vs, hl, S1 with
  | [x, y, z], _, S1 =>
    have e : τ ++ mkT [x, y, z] [(.val a, none), (.val b, none), (.val c, none)] = ((τ ++ [(x, .val a, none)]) ++ [(y, .val b, none)]) ++ [(z, .val c, none)] := by simp [mkT]
    rw [e] at S1
    have hx : Dat G ω1 H1 a x := S1.less.less.last.1
    have hy : Dat G ω1 H1 b y := S1.less.last.1
    have hz : Dat G ω1 H1 c z := S1.last.1
    have r := setAll_ok (Q := fun σ' H' => D.nx σ' H') ap' S1.less.less.less (.cons hx (.cons hy (.one hz))) hg fun σ' ω' S' => h3 _ _ _ S'
    obtain ⟨v, r1, e1, v2, r2, e2, v3, r3, e3, _, h2⟩ := r
    cases e1
    cases e2
    cases e3
    exact ⟨x, y, z, rfl, h2⟩
theorem tss_ex {c : CE} {D : Ends} {σ : L2.St} {H : Hp} (h : TSs G A Wx (evS F pin (.ex c)) D σ H) : tDrop (TEv G A Wx F c) D σ H := by
  obtain ⟨g, τ, ω, S, h⟩ := h
  simp only [evS] at h
  exact tev_of S h fun w g1 v H1 ω1 S1 h => h _ _ _ S1.less
theorem tss_ret {c : CE} {D : Ends} {σ : L2.St} {H : Hp} (h : TSs G A Wx (evS F pin (.ret c)) D σ H) : tRet (TEv G A Wx F c) D σ H := by
  obtain ⟨g, τ, ω, S, h⟩ := h
  simp only [evS] at h
  exact tev_of S h fun w g1 v H1 ω1 S1 h => h _ _ _ _ S1
theorem tss_pass {D : Ends} {σ : L2.St} {H : Hp} (h : TSs G A Wx (evS F pin .pass) D σ H) : tNext D σ H := by
  obtain ⟨g, τ, ω, S, h⟩ := h
  simp only [evS] at h
  exact h _ _ _ S
/-- a suite, whatever stands at its start -/
def TSa (G : Gm) (Wx : WX) (pin : List Nat) (m : Sg → Option SR) : TS := fun D σ H => ∃ A, APin A pin ∧ TSs G A Wx m D σ H
theorem tss_iff {c : CE} {a b : CB} {D : Ends} {σ : L2.St} {H : Hp} (ap : APin A pin) (h : TSs G A Wx (evS F pin (.iff c a b)) D σ H) : tIfS (TTs G A Wx F c) (TSa G Wx pin (evB F pin a)) (TSa G Wx pin (evB F pin b)) D σ H := by
  obtain ⟨g, τ, ω, S, h⟩ := h
  simp only [evS] at h
  refine ⟨g, τ, ω, S, h.bS.imp (fun t g1 h H1 ω1 S1 => ?_) fun _ _ h => cx_kx h⟩
  cases t with
  | true => exact ⟨A, ap, g1, τ, ω1, S1, h⟩
  | false => exact ⟨A, ap, g1, τ, ω1, S1, h⟩
theorem tsa_nil {D : Ends} {σ : L2.St} {H : Hp} (h : TSa G Wx pin (evB F pin .nil) D σ H) : tNext D σ H := by
  obtain ⟨A, ap, g, τ, ω, S, h⟩ := h
  simp only [evB] at h
  exact h _ _ _ S
theorem tsa_cons {s : CS} {r : CB} {D : Ends} {σ : L2.St} {H : Hp} (h : TSa G Wx pin (evB F pin (.cons s r)) D σ H) : tSeq (TSa G Wx pin (evS F pin s)) (TSa G Wx pin (evB F pin r)) D σ H := by
  obtain ⟨A, ap, g, τ, ω, S, h⟩ := h
  simp only [evB] at h
  refine ⟨A, ap, g, τ, ω, S, ?_⟩
  cases e : evS F pin s g with
  | none => rw [e] at h; exact h.elim
  | some x =>
    rw [e] at h
    cases x with
    | nx g1 =>
      intro σ' H' ω' S'
      exact ⟨A, ap, g1, τ, ω', S', h⟩
    | ret w g1 => exact h
    | exc x g1 => exact h
theorem ExnOk.mono {ω ω' : Om} {H : Hp} {x : Exn} {cls : Value} {d : Option Addr} (e : Ext H ω H ω') (h : ExnOk G ω H x cls d) : ExnOk G ω' H x cls d := by
  obtain ⟨C, h1, h2, h3⟩ := h
  refine ⟨C, h1, h2, ?_⟩
  cases hf : x.f with
  | none => rw [hf] at h3; exact h3
  | some fx =>
    rw [hf] at h3
    obtain ⟨dd, v, h4, h5, h6⟩ := h3
    exact ⟨dd, v, h4, e _ _ h5.1 h5.2, Dat.mono e _ _ h6⟩
theorem leave_lx {σ' : L2.St} {g' : Sg} {τ : Tm} {H H' : Hp} {ω ω' : Om} {k : Nat} {P : List (Nat × V)} (S' : Stt G (maskA H (lentx k ω) P) σ' g' τ H' ω') {a : Addr} {o : HO} {j : Nat} (h1 : H a = some o) (h2 : ω a = some (.t j)) (h3 : k ≤ j) : ω' a = some .x := S'.fx a (by rw [maskA_w h1]; exact lentx_t h2 h3)
theorem leave_own {σ' : L2.St} {g' : Sg} {τ : Tm} {H H' : Hp} {ω ω' : Om} {k : Nat} {P : List (Nat × V)} (S' : Stt G (maskA H (lentx k ω) P) σ' g' τ H' ω') {a : Addr} {u : Own} (h : ω' a = some u) (ne : u ≠ .x) : unlent k H ω ω' a = some u := by
  rcases unlent_cases (k := k) (H := H) (ω := ω) (ω' := ω') a with e | ⟨o, j, h1, h2, h3, _⟩
  · rw [e]; exact h
  · rw [leave_lx S' h1 h2 h3] at h
    injection h with h
    exact absurd h.symm ne
theorem leave_ext {σ' : L2.St} {g' : Sg} {τ : Tm} {H H' : Hp} {ω ω' : Om} {k : Nat} {P : List (Nat × V)} (S' : Stt G (maskA H (lentx k ω) P) σ' g' τ H' ω') : Ext H' ω' H' (unlent k H ω ω') := fun a o h n => by
  refine ⟨h, ?_⟩
  rcases unlent_cases (k := k) (H := H) (ω := ω) (ω' := ω') a with e | ⟨o, j, h1, h2, h3, _⟩
  · rw [e]; exact n
  · rw [leave_lx S' h1 h2 h3] at n; cases n
/-- the loop's wishes, inside -/
theorem outS_bk {τ : Tm} {D : Ends} {σ : L2.St} {g : Sg} {H : Hp} {ω : Om} {vs : List V} {bk : List (W × Option Nat)} {m : Option SR} (S : Stt G A σ g (τ ++ mkT vs bk) H ω) (hl : vs.length = bk.length)
    (h : OutS (Cn G A τ D) (Cr G A τ D) (Cx' G A Wx τ) (bkS bk m)) :
    OutS (Cn G (maskA H (lentx τ.length ω) A.pin) (τ ++ mkT vs (outs bk)) D) (Cr G (maskA H (lentx τ.length ω) A.pin) (τ ++ mkT vs (outs bk)) D) (Cx' G (maskA H (lentx τ.length ω) A.pin) Wx (τ ++ mkT vs (outs bk))) m := by
  cases m with
  | none => exact h.elim
  | some r =>
    cases r with
    | nx g1 =>
      intro σ' H' ω' S'
      obtain ⟨ω2, S2, _⟩ := (S.leave hl S').back hl
      exact h _ _ _ S2
    | ret w g1 =>
      intro σ' v H' ω' S'
      obtain ⟨en, _⟩ := S'.last
      obtain ⟨ω2, S2, e2, k2⟩ := (S.leave hl S'.less).back' hl
      have en2 := en.ren (o' := .t (τ ++ mkT vs (outs bk)).length) (leave_ext S') fun a q => leave_own S' q nofun
      have hn : (τ ++ mkT vs (outs bk)).length = τ.length + bk.length := by
        rw [List.length_append, mkT_len (by rw [outs_len, hl]), hl]
      rw [hn] at en2
      have en3 := en2.ren e2 fun a q => k2 a _ q fun j z => by injection z with z; omega
      obtain ⟨ω4, S4⟩ := S2.pushAt (by omega) en3
      exact h _ _ _ _ S4
    | exc x g1 =>
      intro σ' cls d H' ω' S' ex
      obtain ⟨ω2, S2, e2⟩ := (S.leave hl S').back hl
      exact h _ _ _ _ _ S2 ((ex.mono (leave_ext S')).mono e2)
theorem apin_mask {H : Hp} {ω : Om} (ap : APin A pin) : APin (maskA H ω A.pin) pin := ap
theorem tss_for {ci : CI} {tg : List Nat} {tup : Bool} {b : CB} {D : Ends} {σ : L2.St} {H : Hp} (hK : X.K = G.K) (ap : APin A pin) (h : TSs G A Wx (evS F pin (.for ci tg tup b)) D σ H) :
    tFor (TIt G A Wx (evI F ci)) (gTgt X.K tg tup) (TSa G Wx pin (evB F pin b)) D σ H := by
  obtain ⟨g, τ, ω, S, h⟩ := h
  simp only [evS] at h
  refine ⟨g, τ, ω, S, h.bS.imp (fun a g1 h vs J H1 ω1 hl S1 it => ?_) fun _ _ h => cx_kx h⟩
  obtain ⟨Gd, Y, w, hG, hY⟩ := it
  have h := outS_bk S1 hl h
  have S2 := S1.enter hl
  let A2 := maskA H1 (lentx τ.length ω1) A.pin
  let τ2 := τ ++ mkT vs (outs a.2)
  let f := turnF pin tg tup (evB F pin b)
  refine for_it w (fun i σ' H' => ∃ g' ω', Stt G A2 σ' g' τ2 H' ω' ∧ OutS (Cn G A2 τ2 D) (Cr G A2 τ2 D) (Cx' G A2 Wx τ2) (forL f (a.1.drop i) g')) ⟨g1, _, S2, h⟩ ?_ ?_ ?_
  · rintro i σ' H' _ ⟨g', ω', S', _⟩
    exact hG _ _ S'.stay
  · rintro i x σ' H' H2 hi ⟨g', ω', S', h⟩ y
    have hd : a.1[i]? = some a.1[i] := List.getElem?_eq_getElem hi
    obtain ⟨ω3, gr, dx⟩ := hY i H' x H2 ω' _ hd S'.stay y
    rw [List.drop_eq_getElem_cons hi] at h
    unfold forL at h
    have h1 : ∃ g3, setTgP pin tg tup a.1[i] g' = some g3 := by
      cases e : setTgP pin tg tup a.1[i] g' with
      | some g3 => exact ⟨g3, rfl⟩
      | none =>
        have e' : f a.1[i] g' = none := by show ofO _ _ = _; rw [e]; rfl
        rw [e'] at h
        exact h.elim
    obtain ⟨g3, h1⟩ := h1
    have e' : f a.1[i] g' = evB F pin b g3 := by show ofO _ _ = _; rw [h1]; rfl
    rw [e'] at h
    refine setTgP_ok (A := A2) hK (apin_mask ap) (S'.grow gr) dx h1 fun σ4 ω4 S4 => ?_
    refine ⟨A2, apin_mask ap, g3, τ2, ω4, S4, ?_⟩
    cases e : evB F pin b g3 with
    | none => rw [e] at h; exact h.elim
    | some r =>
      rw [e] at h
      cases r with
      | nx g5 => intro σ5 H5 ω5 S5; exact ⟨g5, ω5, S5, h⟩
      | ret w g5 => exact h
      | exc x g5 => exact h
  · rintro σ' H' ⟨g', ω', S', h⟩
    rw [List.drop_length] at h
    exact h _ _ _ S'
theorem tss_whl {c : CE} {b : CB} {D : Ends} {σ : L2.St} {H : Hp} (ap : APin A pin) (h : TSs G A Wx (evS F pin (.whl c b)) D σ H) : tWhile (TTs G A Wx F c) (TSa G Wx pin (evB F pin b)) D σ H := by
  obtain ⟨g, τ, ω, S, h⟩ := h
  simp only [evS] at h
  cases e : whileS (evT F c) (evB F pin b) g with
  | none => rw [e] at h; exact h.elim
  | some r =>
    rw [e] at h
    obtain ⟨n, hn⟩ := whileS_some e
    refine ⟨fun m σ' H' => ∃ g' ω', Stt G A σ' g' τ H' ω' ∧ OutS (Cn G A τ D) (Cr G A τ D) (Cx' G A Wx τ) (whileN (evT F c) (evB F pin b) m g'), ⟨n, g, ω, S, by rw [hn]; exact h⟩, ?_⟩
    rintro m σ1 H1 ⟨g1, ω1, S1, h1⟩
    cases m with
    | zero => exact h1.elim
    | succ m =>
      unfold whileN wstep at h1
      refine ⟨g1, τ, ω1, S1, ?_⟩
      cases e1 : evT F c g1 with
      | none => rw [e1] at h1; exact h1.elim
      | some q =>
        rw [e1] at h1
        cases q with
        | exc x g2 => exact cx_kx h1
        | ok t g2 =>
          intro H2 ω2 S2
          cases t with
          | false => exact h1 _ _ _ S2
          | true =>
            show ∃ N, _
            refine ⟨fun σ' H' => ∃ g' ω', Stt G A σ' g' τ H' ω' ∧ OutS (Cn G A τ D) (Cr G A τ D) (Cx' G A Wx τ) (whileN (evT F c) (evB F pin b) m g'), fun σ' H' q => ⟨m, Nat.lt_succ_self m, q⟩, A, ap, g2, τ, ω2, S2, ?_⟩
            dsimp only at h1
            cases e2 : evB F pin b g2 with
            | none => rw [e2] at h1; exact h1.elim
            | some r2 =>
              rw [e2] at h1
              cases r2 with
              | nx g5 => intro σ5 H5 ω5 S5; exact ⟨g5, ω5, S5, h1⟩
              | ret w g5 => exact h1
              | exc x g5 => exact h1
end
end Ev

set_option Elab.async false
set_option linter.all false
set_option maxRecDepth 100000
set_option maxHeartbeats 4000000
namespace Ev
open PySem PySem.Spec PyProof.Rows L2
section
variable {X : Cx} {pins : List (Addr × Obj)} {σ : L2.St} {H : Hp} {s : Shared}
/-- an untracked object of ours is tracked from here on -/
theorem track {a : Addr} {o : HO} (I : Inv X pins σ H s) (hn : H a = none) (h0 : ∀ u, X.s_0.heap.get? a = some u → a ∉ X.ex → False) (hL : a ≠ X.env.locals) (hC : ∀ x c, X.env.cells.lookup x = some c → c ≠ a) (hp : ∀ p ∈ X.pn ++ pins, p.1 ≠ a)
    (new : ObjOk X.prog X.w (upd H a o) s.heap a o) : Inv X pins σ (upd H a o) s := by
  refine ⟨I.ok, I.os, I.bare, ⟨I.base.keep, I.base.slot, fun b u e n hx => ?_, I.base.there, fun b xs e => ?_, fun b u xs e => ?_, fun b ps e => ?_⟩, I.loc, I.cell, ?_, fun x c e => ?_, fun p hm => ?_, HOk.laidN I.hok (fun _ _ z => z) hn new, I.len⟩
  · rw [upd_ne (fun z => h0 u (by rw [← z]; exact e) (by rw [← z]; exact hx))]
    exact I.base.free b u e n hx
  · have := I.base.tups b xs e
    rw [upd_ne (ne_of_none this hn)]; exact this
  · have := I.base.frzs b u xs e
    rw [upd_ne (ne_of_none this hn)]; exact this
  · obtain ⟨m, q⟩ := I.base.tbls b ps e
    exact ⟨m, by rw [upd_ne (ne_of_none q hn)]; exact q⟩
  · rw [upd_ne (Ne.symm hL)]; exact I.free
  · rw [upd_ne (hC x c e)]; exact I.freeC x c e
  · obtain ⟨q1, q2, q3⟩ := I.pin p hm
    exact ⟨q1, by rw [upd_ne (hp p hm)]; exact q2, q3⟩
end
theorem xo_ok {P : Program} {w : World} {H : Hp} {h : Heap} {a C : Addr} {d : Option Addr} {oe : Obj} {vs : Array Value} (e : h.get? a = some oe) (z : Zc (.ref C) d oe) (hd : oe.data = .fields vs) : ObjOk P w H h a (XO a C d) :=
  ⟨⟨oe, vs, e, z, hd⟩, ⟨oe, e⟩, fun h1 h2 ⟨o, v, q, z', d'⟩ k => ⟨o, v, k o q, z', d'⟩⟩
theorem xo_at {P : Program} {w : World} {H : Hp} {h : Heap} {a C : Addr} {d : Option Addr} (hok : HOk P w H h) (e : H a = some (XO a C d)) : ∃ (oe : Obj) (vs : Array Value), h.get? a = some oe ∧ Zc (.ref C) d oe ∧ oe.data = .fields vs := by
  obtain ⟨h1, _⟩ := hok a _ e
  exact h1
/-- what the clause 'except x as n: y = n' wishes: behind the suite the exception is tracked -/
def wAsK (K : PySem.W.Frag) (c : Value) (i : Nat) (ts : Addr → Value → Option Addr → TS) (Wout : WX) (D : Ends) : WX := fun cls d σ H =>
  ∃ b, PySem.W.exmOne K cls c = some b ∧ (b = true → ∀ a, H a = none → ts a cls d { nx := fun σ' H' => H' a = none → ∃ C, cls = .ref C ∧ D.nx (σ'.set i none) (upd H' a (XO a C d)), rt := D.rt, bk := fun σ' H' => D.bk (σ'.set i none) H', ct := fun σ' H' => D.ct (σ'.set i none) H' } (σ.set i (some (.ref a))) H) ∧
    (b = false → Wout cls d σ H)
section
variable {X : Cx} {x n : Str} {c : Value} {i : Nat} {body suite : List Stmt} {b₀ : Stmt} {np pos pos' : Pos} {tb : WX → TS} {ts : Addr → Value → Option Addr → TS} {Wout : WX}
theorem ps_try_asK (hs : X.stack = X.env :: X.outer) (hf : X.env.frame = some X.env.locals) (hN : X.N.Nodup) (hi : X.N[i]? = some n) (hln : X.env.kindOf n = some .local) (hc : Names X x c) (tk : Takes X Wout)
    (hb : ∀ (W : WX) (pn : List (Addr × Obj)) (xe : Value → Shared → Prop), Takes (X.tr pn xe) W → PassesOwn (model X.prog X.w) X.A X.env xe → PSs (X.tr pn xe) body (tb W))
    (hsu : ∀ (a : Addr) (oe : Obj) (cls : Value) (d : Option Addr) (pn : List (Addr × Obj)), Zc cls d oe → (∃ vs, oe.data = .fields vs) → PSs (X.suite a ((a, oe) :: pn)) (b₀ :: suite) (ts a cls d)) :
    PS X (.Try body [.ExceptHandler (some (.Name x np)) (some n) (b₀ :: suite) pos'] [] [] pos) (fun D σ H => tb (wAsK X.K c i ts Wout D) D σ H) := by
  refine ⟨fun pins s σ H D I h => wpAny_Try_except ?_⟩
  have ok := I.ok
  have hfr : X.A.frames = some (X.env :: X.outer) := by rw [ok.frames, hs]
  let hds : List ExceptHandler := [.ExceptHandler (some (.Name x np)) (some n) (b₀ :: suite) pos']
  let xe : Value → Shared → Prop := fun e s₁ => wpAny (model X.prog X.w) X.A (noteFrame e X.env) (fun _ s₂ => wpAny (model X.prog X.w) X.A (setFlight e none) (fun _ s₃ =>
    wpAny (model X.prog X.w) X.A (handleBy e X.env hds) (SP X pins D) X.xe s₃) X.xe s₂) X.xe s₁
  have catch_ : Takes (X.tr (X.pn ++ pins) xe) (wAsK X.K c i ts Wout D) := fun u s' xx => by
    obtain ⟨a, B, sI, pins', σ', H', cls, d, rfl, J', nb, up, sky, na, os, ag, b, hb1, hyes, hno⟩ := xx
    have J : Inv X pins σ' H' sI := J'.ofTry ok
    have sky' : Sky B (X.env :: X.outer) a (Zc cls d) X.env.locals s'.heap := by rw [← hs]; exact sky
    show wpAny (model X.prog X.w) X.A (noteFrame (.ref a) X.env) _ _ _
    refine Sky.land Zc.steady hfr hf sky' fun h3 fl3 up3 => ?_
    have J3 : Inv X pins σ' H' { s' with heap := h3 } := J.landed nb fl3.1 (up.trans up3) os ag
    obtain ⟨oe3, vs3, he3, hz3, hd3⟩ := fl3.there
    have nfr : a ∉ frs (X.env :: X.outer) := fun hm => by
      obtain ⟨_, o', e', hnf⟩ := fl3.2.2.1.mem hm
      rw [he3] at e'; cases e'
      exact hnf _ hd3
    have nL : a ≠ X.env.locals := fun z => nfr (List.mem_filterMap.mpr ⟨X.env, List.mem_cons_self, by rw [hf, z]⟩)
    have nF : a ∉ X.fs := fun hm => by
      obtain ⟨e, he, q⟩ := List.mem_filterMap.mp hm
      exact nfr (List.mem_filterMap.mpr ⟨e, List.mem_cons_of_mem _ he, q⟩)
    -- new since the entry
    have nI : sI.heap.get? a = none := by
      cases e : sI.heap.get? a with
      | none => rfl
      | some u =>
        have := nb a u e (by show a ∉ frs X.stack; rw [hs]; exact nfr)
        rw [fl3.2.1] at this
        cases this
    have n0 : ∀ u, X.s_0.heap.get? a = some u → a ∉ X.ex → False := fun u e hx => by
      obtain ⟨u', e'⟩ := J.base.there a u e hx
      rw [nI] at e'; cases e'
    have nP : ∀ p ∈ X.pn ++ pins, p.1 ≠ a := fun p hm z => by
      have := (J.pin p hm).1
      rw [z, nI] at this; cases this
    have S3 := J3.suite he3 hd3 na nL nF
    refine wpAny_handleBy_cons (codeAny_handlers_test ?_) (by intro q; cases q)
    have LT : PySem.W.Looks (model X.prog X.w) h3 (typeOf (.ref a)) cls := fun A Q E s k q => wpAny_typeOf_ref (k _ _ he3) (by rw [hz3.1]; exact q)
    have LM := PySem.W.exm_one (M := model X.prog X.w) (J3.kIn) LT hb1
    have test : ∀ {Q : Value → Shared → Prop} {E : Value → Shared → Prop}, Q c { s' with heap := h3 } → wpAny (model X.prog X.w) (X.A.mark (some (.ref a))) (eval (.Name x np) X.env) Q E { s' with heap := h3 } := fun {Q E} q => by
      obtain ⟨hg, hdbg, hm | ⟨hm, hv, hnn⟩⟩ := hc
      · exact ld_glob (X := X.suite a ((a, oe3) :: (X.pn ++ pins))) S3 hg hm q hdbg
      · exact ld_blt (X := X.suite a ((a, oe3) :: (X.pn ++ pins))) S3 hg hm hv q hnn hdbg
    refine test (LM.here ?_)
    cases b with
    | true =>
      refine codeAny_handlers_suite_as (HandSPX.lands_againZ fl3 fun h4 fl4 up4 => ?_)
      have J4 : Inv X pins σ' H' { s' with heap := h4 } := J.landed nb fl4.1 ((up.trans up3).trans up4) os ag
      obtain ⟨oe4, vs4, he4, hz4, hd4⟩ := fl4.there
      have S4 := J4.suite he4 hd4 na nL nF
      refine store_ok (X := X.suite a ((a, oe4) :: (X.pn ++ pins))) (v := .ref a) S4 hN hi (.inl hln) rfl (fun s5 S5 => ?_) (.inr hln)
      refine wpAny_mono ((hsu a oe4 cls d (X.pn ++ pins) hz4 ⟨_, hd4⟩).run [] s5 _ H' _ S5 (hyes rfl a na)) (fun f s6 hsp => ?_) (fun _ _ z => False.elim z)
      cases f with
      | next =>
        obtain ⟨σ6, H6, S6, q6⟩ := hsp
        obtain ⟨p1, p2, p3, p4, p5⟩ := S6.pin (a, oe4) (List.mem_append_left _ List.mem_cons_self)
        obtain ⟨C, rfl, q7⟩ := q6 p2
        have J6 : Inv X pins σ6 H6 s6 := S6.unsuite ok
        have J7 := track (o := XO a C d) J6 p2 n0 p3 (fun y c e z => by
          obtain ⟨v, o, q, qd⟩ := J6.cell y c e
          rw [z] at q
          have p1 : s6.heap.get? a = some oe4 := p1
          rw [p1] at q
          cases q
          exact p5 v qd) nP (xo_ok p1 hz4 hd4)
        exact gone_ok J7 hN hi hln fun s7 J8 => ⟨_, _, J8, q7⟩
      | brk =>
        obtain ⟨σ6, H6, S6, q6⟩ := hsp
        exact gone_ok (S6.unsuite ok) hN hi hln fun s7 J7 => ⟨_, _, J7, q6⟩
      | cont =>
        obtain ⟨σ6, H6, S6, q6⟩ := hsp
        exact gone_ok (S6.unsuite ok) hN hi hln fun s7 J7 => ⟨_, _, J7, q6⟩
      | ret u =>
        obtain ⟨v6, σ6, H6, S6, r6, q6⟩ := hsp
        exact gone_ok (S6.unsuite ok) hN hi hln fun s7 J7 => ⟨_, _, _, J7, r6, q6⟩
    | false =>
      show wpAny _ X.A (handleBy (.ref a) X.env []) _ _ _
      refine wpAny_handleBy_nil ?_
      obtain ⟨k1, k2, k3, oe, vs, T, oT, ts', he, hz, hd, h1, hr⟩ := id fl3
      unfold PySem.passOn
      refine wpAny_bind (wpAny_field he hd h1 ?_)
      rw [if_neg (show ¬ ((Value.ref T == Value.none) = true) from by simp)]
      have fin : wpAny (model X.prog X.w) X.A (setFlight (.ref a) X.env.frame) (fun _ s4 => wpAny (model X.prog X.w) X.A (throw (.ref a) : Sem Flow) (SP X pins D) X.xe s4) X.xe { s' with heap := h3 } := by
        rw [hf]
        refine HandSPX.setFlight_upZ fl3 fun h4 hh4 up4 => wpAny_throw (tk _ _ ?_)
        exact ⟨a, B, sI, pins, σ', H', cls, d, rfl, J, nb, (up.trans up3).trans up4, .inr (.inr (by rw [hs]; exact hh4)), na, os, ag, hno rfl⟩
      first
        | exact wpAny_bind (wpAny_pure (wpAny_bind fin))
        | exact wpAny_bind fin
  refine wpAny_mono ((hb (wAsK X.K c i ts Wout D) (X.pn ++ pins) xe catch_ PassesOwn.looking).run [] s σ H D (I.toTry _) h) (fun f s1 hsp => ?_) (fun e s1 he => he)
  cases f with
  | next =>
    obtain ⟨σ', H', J', q⟩ := hsp
    exact wpAny_execs_nil ⟨σ', H', J'.ofTry ok, q⟩
  | brk =>
    obtain ⟨σ', H', J', q⟩ := hsp
    exact ⟨σ', H', J'.ofTry ok, q⟩
  | cont =>
    obtain ⟨σ', H', J', q⟩ := hsp
    exact ⟨σ', H', J'.ofTry ok, q⟩
  | ret u =>
    obtain ⟨v, σ', H', J', r, q⟩ := hsp
    exact ⟨v, σ', H', J'.ofTry ok, r, q⟩
end
/-- which class is under which, as the written part says -/
def SubOk (K : PySem.W.Frag) (G : Gm) (c' : Str) (cv : Value) : Prop := ∀ c b C, subX c c' = some b → G.cls c = some C → PySem.W.exmOne K (.ref C) cv = some b
section
variable {G : Gm} {A : Amb} {Wx : WX} {F : Fe} {pin : List Nat} {X : Cx}
theorem Stt.setn {i : Nat} {u : Option V} {σ : L2.St} {g : Sg} {τ : Tm} {H : Hp} {ω : Om} (S : Stt G A σ g τ H ω) (h : g[i]? = some none) (hp : ∀ p ∈ A.pin, p.1 ≠ i) : Stt G A (σ.set i u) g τ H ω where
  len := by rw [List.length_set]; exact S.len
  slot := fun j w hj => by
    obtain ⟨v, h1, h2⟩ := S.slot j w hj
    have ne : j ≠ i := fun z => by rw [z, h] at hj; cases hj
    exact ⟨v, by rw [List.getElem?_set_ne (Ne.symm ne)]; exact h1, h2⟩
  temp := fun k v w t hk => by
    obtain ⟨h1, h2⟩ := S.temp k v w t hk
    refine ⟨h1, fun j e => ?_⟩
    obtain ⟨h3, h4⟩ := h2 j e
    have ne : j ≠ i := fun z => by rw [z, h] at h4; cases h4
    exact ⟨by rw [List.getElem?_set_ne (Ne.symm ne)]; exact h3, h4⟩
  tie := S.tie
  pin := fun p hm => by rw [List.getElem?_set_ne (Ne.symm (hp p hm))]; exact S.pin p hm
  dom := S.dom
  fr := S.fr
  fx := S.fx
  fn := S.fn
theorem exc_dat {ω : Om} {H : Hp} {x : Exn} {cls : Value} {d : Option Addr} {a : Addr} (h : ExnOk G ω H x cls d) (ha : H a = none) : ∃ C, cls = .ref C ∧ G.cls x.c = some C ∧ Dat G (oset ω a none) (upd H a (XO a C d)) (excD x) (.ref a) := by
  obtain ⟨C, rfl, h2, h3⟩ := h
  refine ⟨C, rfl, h2, ?_⟩
  unfold excD
  cases hf : x.f with
  | none =>
    rw [hf] at h3
    have h3 : d = none := h3
    subst h3
    unfold Dat
    exact ⟨a, C, rfl, h2, upd_same, oset_same⟩
  | some p =>
    rw [hf] at h3
    obtain ⟨n, y⟩ := p
    obtain ⟨dd, v, rfl, h4, h5⟩ := h3
    unfold Dat
    have gr : Grow H ω (upd H a (XO a C (some dd))) (oset ω a none) := Grow.new ha
    exact ⟨a, C, dd, v, rfl, h2, ⟨upd_same, oset_same⟩, gr.ext _ _ h4.1 h4.2, Dat.mono gr.ext _ _ h5⟩
theorem tss_tryAs {b : CB} {c : Str} {i j : Nat} {cv : Value} {D : Ends} {σ : L2.St} {H : Hp} (ap : APin A pin) (hs : SubOk X.K G c cv) (h : TSs G A Wx (evS F pin (.tryAs b c i j)) D σ H) :
    TSa G (wAsK X.K cv i (fun _ _ _ => tAsg (tVar i) (gName j)) Wx D) pin (evB F pin b) D σ H := by
  obtain ⟨g, τ, ω, S, h⟩ := h
  simp only [evS] at h
  refine ⟨A, ap, g, τ, ω, S, ?_⟩
  cases e : evB F pin b g with
  | none => rw [e] at h; exact h.elim
  | some r =>
    rw [e] at h
    cases r with
    | nx g1 => exact h
    | ret w g1 => exact h
    | exc x g1 =>
      intro σ' cls d H' ω' S' ex
      obtain ⟨b1, hb1, h⟩ := OutS.ofO h
      obtain ⟨C, rfl, hC, _⟩ := id ex
      refine ⟨b1, hs _ _ _ hb1 hC, fun hb a ha => ?_, fun hb => ?_⟩
      · subst hb
        obtain ⟨C', e', hC', hd⟩ := exc_dat ex ha
        cases e'
        have h : OutS _ _ _ (exStore pin i j x g1) := h
        unfold exStore at h
        split at h
        · rename_i hi
          by_cases hp : i ∈ pin ∨ i = j
          · rw [if_pos hp] at h; exact h.elim
          · rw [if_neg hp] at h
            have hp1 : i ∉ pin := fun z => hp (.inl z)
            have hp2 : i ≠ j := fun z => hp (.inr z)
            have S1 := (S'.grow (Grow.new (o := XO a C d) (x := none) ha)).push (w := .val (excD x)) hd
            obtain ⟨ω2, S2, _, q⟩ := store_out ap S1 h
            have hl : i < σ'.length := by rw [← S'.len]; exact lt_of_get hi
            refine ⟨.ref a, List.getElem?_set_self hl, fun _ => ⟨C, rfl, ?_⟩⟩
            have e1 : ((σ'.set i (some (.ref a))).set j (some (.ref a))).set i none = (σ'.set j (some (V.ref a))).set i none := by
              rw [List.set_comm _ _ hp2, List.set_set]
            rw [e1]
            exact q _ _ _ (S2.setn (by rw [List.getElem?_set_ne (Ne.symm hp2)]; exact hi) fun p hm z => hp1 (z ▸ ap p hm))
        · exact h.elim
      · subst hb
        exact h _ _ _ _ _ S' ex
theorem tss_tryOnly {b h : CB} {c : Str} {cv : Value} {D : Ends} {σ : L2.St} {H : Hp} (ap : APin A pin) (hs : SubOk X.K G c cv) (q : TSs G A Wx (evS F pin (.tryOnly b c h)) D σ H) :
    TSa G (wOnly X.K cv (fun _ _ _ => TSa G Wx pin (evB F pin h)) Wx D) pin (evB F pin b) D σ H := by
  obtain ⟨g, τ, ω, S, q⟩ := q
  simp only [evS] at q
  refine ⟨A, ap, g, τ, ω, S, ?_⟩
  cases e : evB F pin b g with
  | none => rw [e] at q; exact q.elim
  | some r =>
    rw [e] at q
    cases r with
    | nx g1 => exact q
    | ret w g1 => exact q
    | exc x g1 =>
      intro σ' cls d H' ω' S' ex
      obtain ⟨b1, hb1, q⟩ := OutS.ofO q
      obtain ⟨C, rfl, hC, _⟩ := id ex
      refine ⟨b1, hs _ _ _ hb1 hC, fun hb a ha => ?_, fun hb => ?_⟩
      · subst hb
        exact ⟨A, ap, g1, τ, ω', S', q⟩
      · subst hb
        exact q _ _ _ _ _ S' ex
theorem tss_raise0 {c : Str} {C : Addr} {e : CE} {D : Ends} {σ : L2.St} {H : Hp} (hC : G.cls c = some C) (h : TSs G A Wx (evS F pin (.raise c none e)) D σ H) (he : ∀ g r, evE F e g = some r → ∃ d, r = .ok (.val d) g) : Wx (.ref C) none σ H := by
  obtain ⟨g, τ, ω, S, h⟩ := h
  simp only [evS] at h
  cases q : evE F e g with
  | none => rw [q] at h; exact h.elim
  | some r =>
    obtain ⟨d, rfl⟩ := he g r q
    rw [q] at h
    exact h _ _ _ _ _ S ⟨C, rfl, hC, rfl⟩
/-- the exception's dict is laid -/
def tRs (C : Addr) (n : Str) (te : TE) (Wx : WX) : TS := fun _ σ H => te σ H fun y H1 => ∀ dd, H1 dd = none → Wx (.ref C) (some dd) σ (upd H1 dd (.xd [(n, y)]))
theorem tss_raise1 {c n : Str} {C : Addr} {e : CE} {D : Ends} {σ : L2.St} {H : Hp} (hC : G.cls c = some C) (h : TSs G A Wx (evS F pin (.raise c (some n) e)) D σ H) : tRs C n (TEv G A Wx F e) Wx D σ H := by
  obtain ⟨g, τ, ω, S, h⟩ := h
  simp only [evS] at h
  refine tev_of S h fun w g1 v H1 ω1 S1 h => ?_
  obtain ⟨d, hd, h⟩ := h.ofO
  have := isV_some hd
  subst this
  intro dd hdd
  have gr : Grow H1 ω1 (upd H1 dd (.xd [(n, v)])) (oset ω1 dd none) := Grow.new hdd
  exact h _ _ _ _ _ (S1.less.grow gr) ⟨C, rfl, hC, dd, v, rfl, ⟨upd_same, oset_same⟩, Dat.mono gr.ext _ _ S1.last.1⟩
end
end Ev

set_option Elab.async false
set_option linter.all false
set_option maxRecDepth 100000
set_option maxHeartbeats 4000000
namespace Ev
open PySem PySem.Spec PySem.Calls PySem.W PyProof.Rows
section
variable {prog : Program} {w : World} {A : Around} {E : Value → Shared → Prop} {s : Shared} {K : Frag} {x D : Addr} {ox : Obj} {od : Option Obj}
theorem findObj_dataX {C : Addr} {name : Str} {a g : Value} (hc : (clsIn K C).isSome = true) (ha : findIn K (.ref C) name = some (some a)) (hg : specialIn K a "__get__" = some (some g)) (ht : takesIn K a = some true) : findObj K C od name = some (.bind g a) := by
  obtain ⟨cd, hc⟩ := Option.isSome_iff_exists.mp hc
  unfold findObj
  rw [hc, Option.bind_some, ha, Option.bind_some]
  simp [hg, ht]
theorem kin_classX {Q : Option Value → Shared → Prop} (hga : findIn K (.ref D) "__getattribute__" = some (some (.builtin "BaseException.__getattribute__"))) (hgt : findIn K (.ref D) "__getattr__" = some none) (hsub : subIn K (.ref D) (.type "BaseException") = some true)
    (hdct : hasDictIn K D = true) (ha : findIn K (.ref D) "__class__" = some (some (.builtin "object.__class__")))
    (hn : specialIn K (.builtin "object.__class__") "__get__" = some (some (.builtin "getset_descriptor.__get__"))) (htk : takesIn K (.builtin "object.__class__") = some true) (hm : mroIn K D (.type "object") = some true)
    (X : K.In s.heap) (I : InstAt s.heap x ox D od) (h : Q (some (.ref D)) { s with toks := s.toks + 1 }) : wpAny (model prog w) A (getAttr? (.ref x) "__class__") Q E s := by
  have hf : findObj K D od "__class__" = some (.bind (.builtin "getset_descriptor.__get__") (.builtin "object.__class__")) := findObj_dataX (by obtain ⟨cd, hc, _⟩ := any_some hdct; rw [hc]; rfl) ha hn htk
  obtain ⟨hp, g, d, t, os⟩ := s
  have L0 := I.type (M := model prog w)
  have L1 := looks_findIn (M := model prog w) X hga
  have L2 := looks_findIn (M := model prog w) X hgt
  have L3 := looks_find (M := model prog w) X I hf
  have sub : Looks (model prog w) hp (isInstance (.ref x) (.type "BaseException")) true := L0.andThen (looks_subIn X hsub)
  have hx0 : (false && onTheHeap (Value.builtin "BaseException.__getattribute__")) = false := rfl
  have hx2 : (Value.builtin "BaseException.__getattribute__" == Value.builtin "object.__getattribute__") = false := by decide +kernel
  have hx1 : (onTheHeap (Value.ref D) && Value.builtin "BaseException.__getattribute__" == Value.builtin "object.__getattribute__") = false := by rw [hx2]; rfl
  unfold getAttr? getAttrBy? getAttrBy
  refine wpAny_bind (wpAny_mkText (wpAny_bind (wpAny_attempt (wpAny_holding (wpAny_bind (L0.at (wpAny_bind (L1.at ?_))))))))
  show wpAny _ _ (if (onTheHeap (Value.ref D) && Value.builtin "BaseException.__getattribute__" == Value.builtin "object.__getattribute__") = true then _ else _) _ _ _
  rw [hx1, if_neg Bool.false_ne_true]
  unfold getAttrByItsOwn hookBefore
  refine wpAny_bind ?_
  rw [if_pos (show onTheHeap (Value.ref D) = true from rfl)]
  refine L2.at ?_
  refine wpAny_bind (wpAny_attempt (wpAny_holding ?_))
  unfold callGetattribute
  rw [hx0, if_neg Bool.false_ne_true]
  unfold boundAndCalled
  rw [PySem.F.excAttr_ValueError.ga.bind (.ref x)]
  refine wpAny_bind (wpAny_pure ?_)
  show wpAny _ _ (call (.builtin "BaseException.__getattribute__") [.ref x, .str "__class__" t]) _ _ _
  refine wpAny_call (codeAny_call_builtin PySem.F.excAttr_ValueError.ga.plain PySem.F.entry_bexc_ga ?_)
  refine @check_slot (model prog w) _ _ ⟨hp, g, d, t + 1, os⟩ "BaseException.__getattribute__" "BaseException" "__getattribute__" (.ref x) [.str "__class__" t] [] _ (by decide +kernel) (by decide +kernel) sub (PySem.F.args_bexc_ga (.ref x) (.str "__class__" t)) ?_
  unfold Builtin.«object.__getattribute__»
  refine wpAny_bind (wpAny_of_eq (a := ((Value.ref x : Value), [Value.str "__class__" t])) (by first | rfl | (simp only [slotArgs]; rfl)) ?_)
  refine wpAny_bind (wpAny_pure (wpAny_bind (L0.at (wpAny_bind (L3.at ?_)))))
  show wpAny _ _ (holding [Value.builtin "object.__class__"] (call (.builtin "getset_descriptor.__get__") [.builtin "object.__class__", .ref x, .ref D]) >>= ret) _ _ _
  refine wpAny_bind (wpAny_holding (wpAny_call (class_get (s := ⟨hp, g, d, t + 1, os⟩) (ox := ox) (od := od) X I hm ?_)))
  refine wpAny_pure ?_
  show wpAny _ _ (handedOut (.ref D)) _ _ _
  rw [handedOut_of (v := .ref D) rfl]
  first
    | exact wpAny_pure (wpAny_pure h)
    | exact wpAny_pure h
    | exact wpAny_pure (wpAny_bind (wpAny_pure (wpAny_pure h)))
theorem kitx_exc (C : L2.ExcC K D) : KitX K (.ref x) (.ref D) (fun h => InstAt h x ox D od) where
  ty := fun _ _ _ I => I.type
  it := fun _ _ X _ => by
    obtain ⟨cdD, hcD, _⟩ := any_some C.hd
    unfold clsIn at hcD
    split at hcD
    · rename_i c' d' cd' sl' ho
      intro A' Q' E' s' k q
      unfold isType loadHead
      exact wpAny_bind (wpAny_loadPart (k _ _ (X _ _ ho)) (wpAny_pure q))
    · cases hcD
  ne := fun h tp dd its n sl X htp => by
    obtain ⟨cdD, hcD, _⟩ := any_some C.hd
    refine Bool.eq_false_iff.mpr fun q => ?_
    have e : D = tp := Value.ref.inj (beq_iff_eq.mp q)
    subst e
    unfold clsIn at hcD
    split at hcD
    · rename_i c' d' cd' sl' ho
      have z := (X _ _ ho).symm.trans htp
      cases z
    · cases hcD
  ca := fun X I k => kin_classX C.hg C.hk C.hs C.hd C.ha C.hn C.ht C.hm X I k
end
open L2
/-- what is written of an own exception's class -/
structure ExcK (K : PySem.W.Frag) (C : Addr) : Prop where
  c : ExcC K C
  f : XfC K C
section
variable {X : Cx} {G : Gm}
theorem inst_at {s : Shared} {pins : List (Addr × Obj)} {σ : L2.St} {H : Hp} {a C : Addr} {d : Option Addr} (I : Inv X pins σ H s) (e : H a = some (XO a C d)) (hd : ∀ dd, d = some dd → ∃ fs, H dd = some (.xd fs)) : ∃ oe od, PySem.W.InstAt s.heap a oe C od ∧
    ∀ dd fs, d = some dd → H dd = some (.xd fs) → ∃ (mA : Str → Option Value) (o : Obj), od = some o ∧ s.heap.get? dd = some o ∧ (∀ n, lookIn n o = some (mA n)) ∧ ∀ f, RelO (fs.lookup f) (mA f) := by
  obtain ⟨oe, vs, h1, h2, h3⟩ := xo_at I.hok e
  have nc : PySem.W.notCls oe = true := by unfold PySem.W.notCls; rw [h3] <;> rfl
  cases d with
  | none => exact ⟨oe, none, ⟨h1, h2.1, nc, by rw [h2.2]; trivial⟩, fun dd fs z => by cases z⟩
  | some dd =>
    obtain ⟨fs, hx⟩ := hd dd rfl
    obtain ⟨mA, hns, hr⟩ := I.hok dd _ hx
    obtain ⟨od, ho, hl⟩ := lookIn_ns hns
    refine ⟨oe, some od, ⟨h1, h2.1, nc, by rw [h2.2]; exact ho⟩, fun dd' fs' z hx' => ?_⟩
    cases z
    rw [hx] at hx'
    cases hx'
    exact ⟨mA, od, rfl, ho, hl, hr⟩
/-- isinstance(e, c) -/
def rIsX (K : PySem.W.Frag) : List V → Hp → VK → Prop := fun xs H Q => ∃ (a D : Addr) (d : Option Addr) (c : V) (cv : Value) (b : Bool), xs = [.ref a, c] ∧ (∀ u, RelV c u → u = cv) ∧ H a = some (XO a D d) ∧ (∀ dd, d = some dd → ∃ fs, H dd = some (.xd fs)) ∧ ExcC K D ∧ PySem.W.kitOne K (.ref D) cv = some b ∧ Q (.bl b) H
theorem call_isX : CallR X (.builtin "isinstance") (rIsX X.K) := by
  intro pins s σ H xs us Q I r h
  obtain ⟨a, D, d, c, cv, b, rfl, hcv, ha, hd, C, e, q⟩ := h
  cases r with
  | cons rx rr =>
    cases rr with
    | cons rt rr =>
      cases rr
      cases rx
      have ec := hcv _ rt
      subst ec
      obtain ⟨oe, od, J, _⟩ := inst_at I ha hd
      exact PySem.W.kia_one (kitx_exc C) I.kIn J e (fun z => nomatch z) fun tk => ⟨.bl b, H, I.kept (t' := tk) fun _ _ z => z, rfl, q⟩
/-- e.f -/
def tXo (K : PySem.W.Frag) (n : Str) (te : TE) : TE := fun σ H Q => te σ H fun x H1 => ∃ (a C dd : Addr) (fs : List (Str × V)) (v : V), x = .ref a ∧ XfC K C ∧ PySem.W.findIn K (.ref C) n = some none ∧ H1 a = some (XO a C (some dd)) ∧ H1 dd = some (.xd fs) ∧ fs.lookup n = some v ∧ Q v H1
theorem pe_xo {e : Expr} {te : TE} {pos : Pos} {n : Str} (he : PE X e te) (hb : attributeBase e n X.env (eval e X.env) = eval e X.env) : PE X (.Attribute e n pos) (tXo X.K n te) := by
  refine ⟨fun pins s σ H Q I h => ?_⟩
  refine attr_of hb (thn (he.run pins s σ H _ I h) fun u s1 hh => ?_)
  obtain ⟨x, H1, I1, rx, a, C, dd, fs, v, ex, T, hno, ha, hx, l, q⟩ := hh
  subst ex
  obtain rfl : u = Value.ref a := rx
  obtain ⟨oe, od, J, k⟩ := inst_at I1 ha fun dd' z => by cases z; exact ⟨fs, hx⟩
  obtain ⟨mA, o, rfl, ho, hl, hr⟩ := k dd fs rfl hx
  obtain ⟨u, hu, ru⟩ := RelO.some_of (v := v) (o := mA n) (by rw [← l]; exact hr n)
  exact HandSPX.exc_get I1.kIn J T.ga T.gg T.exC (PySem.W.findObj_own T.hdC hno rfl (by rw [hl, hu])) (handed_of ru) ⟨v, H1, I1.tok _, ru, q⟩
variable {A : Amb} {Wx : WX} {F : Fe}
theorem fld_exc {i : Nat} {n : Str} {g : Sg} {d : D} (h : fldOf i n g = some d) : (∃ c fs, g[i]? = some (some (.ins c fs)) ∧ insC.contains c = true ∧ fs.lookup n = some d) ∨ ∃ c, g[i]? = some (some (.val (.exc1 c n d))) ∧ leaves.contains c = true := by
  unfold fldOf at h
  split at h
  · rename_i c fs e
    by_cases hc : insC.contains c = true
    · rw [if_pos hc] at h
      exact .inl ⟨c, fs, e, hc, h⟩
    · rw [if_neg hc] at h; cases h
  · rename_i c m x e
    by_cases hm : m = n ∧ leaves.contains c = true
    · rw [if_pos hm] at h
      cases h
      obtain ⟨rfl, h2⟩ := hm
      exact .inr ⟨c, e, h2⟩
    · rw [if_neg hm] at h; cases h
  · cases h
theorem fdat_get {ω : Om} {H : Hp} {n : Str} {d : D} : ∀ {fs : List (Str × D)} {l : List (Str × V)}, FDat G ω H fs l → fs.lookup n = some d → ∃ v, l.lookup n = some v ∧ Dat G ω H d v
  | [], _, _, e => by simp at e
  | (f, x) :: fs, l, h, e => by
    obtain ⟨v, r, rfl, h1, h2⟩ := h
    rw [List.lookup_cons] at e
    cases q : n == f with
    | true =>
      rw [q] at e
      cases e
      exact ⟨v, by rw [List.lookup_cons, q], h1⟩
    | false =>
      rw [q] at e
      obtain ⟨u, k1, k2⟩ := fdat_get h2 e
      exact ⟨u, by rw [List.lookup_cons, q]; exact k1, k2⟩
/-- what is written of the classes: of own exceptions; of instances -/
def ExcOk (K : PySem.W.Frag) (G : Gm) : Prop := ∀ c C, leaves.contains c = true → G.cls c = some C → ExcC K C ∧ XfC K C
def FldOk (K : PySem.W.Frag) (G : Gm) (n : Str) : Prop := (∀ c C, leaves.contains c = true → G.cls c = some C → PySem.W.findIn K (.ref C) n = some none) ∧ ∀ c C, insC.contains c = true → G.cls c = some C → Cls K C ∧ NoAttr K C n
theorem peFld {i : Nat} {n x : Str} {p pos : Pos} (hN : X.N[i]? = some x) (hv : Vis X.env.scope x) (hd : (x == ("__debug__" : Str)) = false) (hcd : (x == ("__classdict__" : Str)) = false) (hb : attributeBase (.Name x p) n X.env (eval (.Name x p) X.env) = eval (.Name x p) X.env)
    (he : ExcOk X.K G) (hf : FldOk X.K G n) : PE X (.Attribute (.Name x p) n pos) (TEv G A Wx F (.fld i n)) := by
  have pv := pe_var (pos := p) hN hv hd hcd
  refine ⟨fun pins s σ H Q I h => ?_⟩
  obtain ⟨g, τ, ω, S, h⟩ := h
  have h := noTie_out h
  simp only [evE] at h
  obtain ⟨d, hd, h⟩ := h.ofO
  rcases fld_exc hd with ⟨c, fs, e1, e2, e3⟩ | ⟨c, e1, e2⟩
  · obtain ⟨v, q1, q2⟩ := S.slot i _ e1
    obtain ⟨a, C, dx, fvs, rfl, k1, k2, k3, k4⟩ := q2
    obtain ⟨u, k5, k6⟩ := fdat_get k4 e3
    obtain ⟨f1, f2⟩ := hf.2 c C e2 k3
    exact (pe_fld pv hb).run pins s σ H Q I ⟨_, q1, a, C, dx, fvs, u, rfl, k1, f1, f2, k5, h u H ω (S.push k6)⟩
  · obtain ⟨v, q1, q2⟩ := S.slot i _ e1
    have q2 : Dat G ω H (.exc1 c n d) v := q2
    unfold Dat at q2
    obtain ⟨a, C, dd, u, rfl, k1, k2, k3, k4⟩ := q2
    exact (pe_xo pv hb).run pins s σ H Q I ⟨_, q1, a, C, dd, [(n, u)], u, rfl, (he c C e2 k1).2, hf.1 c C e2 k1, k2.1, k3.1, by simp [List.lookup], h u H ω (S.push k4)⟩
/-- what isinstance answers of own exceptions -/
def IscOk (K : PySem.W.Frag) (G : Gm) (c' : Str) (cv : Value) : Prop := ∀ c b C, subX c c' = some b → G.cls c = some C → PySem.W.kitOne K (.ref C) cv = some b
theorem subX_leaf {c c' : Str} {b : Bool} (h : subX c c' = some b) : leaves.contains c = true := by
  unfold subX at h
  by_cases hc : leaves.contains c = true
  · exact hc
  · rw [if_neg hc] at h; cases h
theorem exc_vd {ω : Om} {H : Hp} {d : D} {y : V} {c' : Str} {w : W} (hv : Vd G ω H d y) (h : pIsc c' d = some w) : ∃ a c C dd b, y = .ref a ∧ G.cls c = some C ∧ subX c c' = some b ∧ H a = some (XO a C dd) ∧ (∀ x, dd = some x → ∃ fs, H x = some (.xd fs)) ∧ w = .val (.bl b) := by
  cases d with
  | exc0 c =>
    unfold Vd Dat at hv
    obtain ⟨a, C, rfl, h1, h2, h3⟩ := hv
    have h : (subX c c').bind vb = some w := h
    cases e : subX c c' with
    | none => rw [e] at h; cases h
    | some b =>
      rw [e] at h
      exact ⟨a, c, C, none, b, rfl, h1, e, h2, fun x z => (nomatch z), vbSome h⟩
  | exc1 c n x =>
    unfold Vd Dat at hv
    obtain ⟨a, C, dd, u, rfl, h1, h2, h3, h4⟩ := hv
    have h : (subX c c').bind vb = some w := h
    cases e : subX c c' with
    | none => rw [e] at h; cases h
    | some b =>
      rw [e] at h
      exact ⟨a, c, C, some dd, b, rfl, h1, e, h2.1, fun x z => by cases z; exact ⟨_, h3.1⟩, vbSome h⟩
  | _ => cases h
theorem peIsc {c' : Str} {a e2 : Expr} {ca : CE} {cvv : V} {cv : Value} {q pos : Pos} (hg : Gl X "isinstance") (hm : X.mg "isinstance" = none) (he : ExcOk X.K G) (hi : IscOk X.K G c' cv) (hc : PE X e2 (tC cvv)) (hcv : ∀ u, RelV cvv u → u = cv) (ha : PE X a (TAr G A Wx F ca))
    (h1 : starEach [a, e2] X.env = (false, eval a X.env) :: starEach [e2] X.env) (h2 : starEach [e2] X.env = (false, eval e2 X.env) :: starEach [] X.env) (hpl : (backTo pos (starEach [e2] X.env)).any (·.1) = false) :
    PE X (.Call (.Name "isinstance" q) [a, e2] [] pos) (TEv G A Wx F (.prim (.isc c') (.cons ca .nil))) := by
  refine peImp (pe_callB call_isX hg hm (by decide +kernel) (pa_cons ha (pa_cons hc pa_nil h2) h1) (by decide) (by decide) h1 hpl) fun σ H Q h => ?_
  refine tg_imp (tas_cons (prim_end h)) fun y H1 h1 => ?_
  obtain ⟨o, ω, ds, w, hv, hp, q⟩ := tas_nil h1
  obtain ⟨d, rfl, h3⟩ := vds1 hv
  obtain ⟨a, c, C, dd, b, rfl, k1, k2, k3, k4, rfl⟩ := exc_vd h3 (show pIsc c' d = some w from hp)
  exact ⟨a, C, dd, cvv, cv, b, rfl, hcv, k3, k4, (he c C (subX_leaf k2) k1).1, hi c b C k2 k1, q_bl q⟩
end
end Ev

set_option Elab.async false
set_option linter.all false
set_option maxRecDepth 100000
set_option maxHeartbeats 4000000
namespace Ev
open PySem PySem.Spec PyProof.Rows L2
inductive NumsAre : List Value → List Int → Prop where
  | nil : NumsAre [] []
  | cons {v : Value} {i : Int} {vs : List Value} {is : List Int} (h : NumOf i v) (t : NumsAre vs is) : NumsAre (v :: vs) (i :: is)
theorem NumsAre.at {vs : List Value} {is : List Int} (h : NumsAre vs is) : ∀ {k : Nat} {v : Value}, vs[k]? = some v → NumOf (is.getD k 0) v := by
  induction h with
  | nil => intro k v e; simp at e
  | cons h t ih =>
    intro k v e
    cases k with
    | zero => simp at e; subst e; exact h
    | succ k => exact ih (by simpa using e)
theorem NumsAre.len {vs : List Value} {is : List Int} (h : NumsAre vs is) : vs.length = is.length := by
  induction h with
  | nil => rfl
  | cons h t ih => simp [ih]
section
variable {X : Cx} {G : Gm}
theorem nums_vals {ω : Om} {H : Hp} : ∀ {ds : List D} {vs : List V} {us : List Value} {ns : List Int}, Dats G ω H ds vs → Vals vs us → dNums ds = some ns → NumsAre us ns
  | [], vs, us, ns, h, r, e => by
    unfold Dats at h
    subst h
    cases r
    cases e
    exact .nil
  | d :: ds, vs, us, ns, h, r, e => by
    unfold Dats at h
    obtain ⟨v, vr, rfl, h1, h2⟩ := h
    cases r with
    | cons r1 r2 =>
      cases d with
      | int i =>
        unfold Dat at h1
        subst h1
        obtain ⟨t, rfl⟩ := r1
        cases e2 : dNums ds with
        | none => unfold dNums at e; rw [e2] at e; cases e
        | some ms =>
          unfold dNums at e
          rw [e2] at e
          cases e
          exact .cons (.inl ⟨t, rfl⟩) (nums_vals h2 r2 e2)
      | bl b =>
        unfold Dat at h1
        subst h1
        cases r1
        cases e2 : dNums ds with
        | none => unfold dNums at e; rw [e2] at e; cases e
        | some ms =>
          unfold dNums at e
          rw [e2] at e
          cases e
          exact .cons (.inr ⟨b, rfl, rfl⟩) (nums_vals h2 r2 e2)
      | _ => unfold dNums at e; cases e
theorem clSum (hc : X.calm = true) : CallR X (.builtin "sum") (rP G .sum) := by
  intro pins s σ H xs us Q I r h
  obtain ⟨o, ω, ds, w, hv, hp, q⟩ := h
  obtain ⟨x, d, rfl, rfl, hd⟩ : ∃ x d, xs = [x] ∧ ds = [d] ∧ Vd G ω H d x := by
    match ds, hv, hp with
    | [d], hv, hp =>
      obtain ⟨v, r, rfl, h1, h2⟩ := hv
      cases h2
      exact ⟨v, d, rfl, rfl, h1⟩
    | [], hv, hp => cases hp
    | [a, b], hv, hp => cases hp
    | [a, b, c], hv, hp => cases hp
    | a :: b :: c :: e :: r, hv, hp => cases hp
  have hp : pSum d = some w := hp
  cases d with
  | lst ys =>
    obtain ⟨a, vs, rfl, h1, h2⟩ := vdL hd
    have hp : ((dNums ys).bind fun ns => vi ns.sum) = some w := hp
    cases en : dNums ys with
    | none => rw [en] at hp; cases hp
    | some ns =>
      rw [en] at hp
      have := viSome hp
      subst this
      obtain ⟨its, rv, hl, hz⟩ := I.list (SqL.of h1)
      rw [Vals.ref1 r]
      have hn := nums_vals h2 rv en
      have hh : X.A.in1.handled = none := (I.ok.hd hc)
      refine call_sum_walkAnyB (wpAny_pyIter_list hl.isList ?_)
      have hlt : a < s.heap.objs.size := hl.lt
      refine ⟨s.heap.objs.size, [s.heap.objs.size, a], [s.heap.objs.size], _, _, _, _, fun i => ns.getD i 0, rfl,
        (Walks.list (prog := X.prog) (w := X.w) (A := X.A.in1) hh s.heap.objs.size a (Nat.ne_of_lt hlt) its.toArray).toS, ⟨⟨_, Heap.get?_push_size _ rfl, rfl, rfl⟩, hl.isList.push _⟩, fun b hb => ?_, fun i v hv => hn.at (by simpa using hv), fun s' t' hm => ?_⟩
      · rw [Heap.size_push]
        have e' : b = s.heap.objs.size ∨ b = a := by simpa using hb
        rcases e' with z | z
        · rw [z]; exact Nat.lt_succ_self _
        · rw [z]; exact Nat.lt_succ_of_lt hlt
      · have k : ∀ b o, s.heap.get? b = some o → s'.heap.get? b = some o := fun b o e => hm.heap b o (by simp; exact Nat.ne_of_lt (Heap.lt_size e)) (Heap.get?_push_of_some _ e)
        obtain ⟨h', g', d', tk', os'⟩ := s'
        have e1 : g' = s.gens := hm.gens
        have e2 : d' = s.drawn := hm.drawn
        have e3 : os' = s.os := hm.os
        subst e1 e2 e3
        refine ⟨.int ns.sum, H, I.kept k, ⟨t', ?_⟩, q_int q⟩
        have e4 : its.toArray.size = ns.length := by simp [hn.len]
        rw [e4, preSum_getD, List.take_of_length_le (Nat.le_refl _)]
  | _ => cases hp
theorem flat_vd {ω : Om} {H : Hp} {d : D} {v : V} (h : Vd G ω H d v) (f : flatD d = true) : flatV v = true ∧ ∀ (e : D) (u : V), Vd G ω H e u → flatD e = true → eqV v u = eqF d e := by
  cases d with
  | non =>
    cases vdN h
    refine ⟨rfl, fun e u hu fe => ?_⟩
    cases e with
    | non => cases vdN hu; rfl
    | bl b => cases vdB hu; rfl
    | int b => cases vdI hu; rfl
    | str b => cases vdS hu; rfl
    | _ => cases fe
  | bl a =>
    cases vdB h
    refine ⟨rfl, fun e u hu fe => ?_⟩
    cases e with
    | non => cases vdN hu; rfl
    | bl b => cases vdB hu; rfl
    | int b => cases vdI hu; rfl
    | str b => cases vdS hu; rfl
    | _ => cases fe
  | int a =>
    cases vdI h
    refine ⟨rfl, fun e u hu fe => ?_⟩
    cases e with
    | non => cases vdN hu; rfl
    | bl b => cases vdB hu; rfl
    | int b => cases vdI hu; rfl
    | str b => cases vdS hu; rfl
    | _ => cases fe
  | str a =>
    cases vdS h
    refine ⟨rfl, fun e u hu fe => ?_⟩
    cases e with
    | non => cases vdN hu; rfl
    | bl b => cases vdB hu; rfl
    | int b => cases vdI hu; rfl
    | str b => cases vdS hu; rfl
    | _ => cases fe
  | _ => cases f
theorem flat_all {ω : Om} {H : Hp} : ∀ {ds : List D} {vs : List V}, Dats G ω H ds vs → ds.all flatD = true → vs.all flatV = true
  | [], vs, h, _ => by unfold Dats at h; subst h; rfl
  | d :: ds, vs, h, f => by
    unfold Dats at h
    obtain ⟨v, r, rfl, h1, h2⟩ := h
    simp only [List.all_cons, Bool.and_eq_true] at f ⊢
    exact ⟨(flat_vd h1.vd f.1).1, flat_all h2 f.2⟩
theorem flat_any {ω : Om} {H : Hp} {e : D} {u : V} (hu : Vd G ω H e u) (fe : flatD e = true) : ∀ {ds : List D} {vs : List V}, Dats G ω H ds vs → ds.all flatD = true → (vs.any fun y => eqV y u) = ds.any fun y => eqF y e
  | [], vs, h, _ => by unfold Dats at h; subst h; rfl
  | d :: ds, vs, h, f => by
    unfold Dats at h
    obtain ⟨v, r, rfl, h1, h2⟩ := h
    simp only [List.all_cons, Bool.and_eq_true] at f
    simp only [List.any_cons, (flat_vd h1.vd f.1).2 e u hu fe, flat_any hu fe h2 f.2]
theorem in_cases {ω : Om} {H : Hp} {d e : D} {x y : V} {b : Bool} (hK : X.K = G.K) (hd : Vd G ω H d x) (he : Vd G ω H e y) (h : pIn d e = some b) :
    (∃ c z, x = .str ⟨#[c]⟩ ∧ y = .str z ∧ b = decide (c ∈ z.cps.toList)) ∨ (∃ p xs, y = .ref p ∧ (SqL X.K H p xs ∨ SqT X.K H p xs) ∧ flatV x = true ∧ xs.all flatV = true ∧ b = inV x xs) ∨
    ∃ p ds, Dp X.K H x p ∧ Dp X.K H y (.list ds) ∧ SeqAt.shaped p = true ∧ SeqAt.shaped (.list ds) = true ∧ b = ds.any fun z => PyData.eqv z p := by
  unfold pIn at h
  split at h
  · rename_i s z
    obtain ⟨h1, h2⟩ := ifSome h
    cases h2
    cases vdS hd
    cases vdS he
    obtain ⟨⟨l⟩⟩ := s
    have h1 : l.length = 1 := by simpa using h1
    match l, h1 with
    | [c], _ => exact .inl ⟨c, z, rfl, rfl, by simp⟩
  · rename_i hne
    obtain ⟨h1, h2⟩ := ifSome h
    cases h2
    obtain ⟨a, vs, rfl, k1, k2, _⟩ := vdT he
    exact .inr (.inl ⟨a, vs, rfl, .inr (by rw [hK]; exact k1), (flat_vd hd h1.1).1, flat_all k2 h1.2, (flat_any hd h1.1 k2 h1.2).symm⟩)
  · rename_i ys
    by_cases hfl : flatD d = true ∧ ys.all flatD = true
    · rw [if_pos hfl] at h
      have h2 := Option.some.inj h
      subst h2
      obtain ⟨a, vs, rfl, k1, k2⟩ := vdL he
      exact .inr (.inl ⟨a, vs, rfl, .inl (SqL.of k1), (flat_vd hd hfl.1).1, flat_all k2 hfl.2, (flat_any hd hfl.1 k2 hfl.2).symm⟩)
    · rw [if_neg hfl] at h
      unfold pInX at h
      split at h
      · rename_i p ds e1 e2
        obtain ⟨h1, h2⟩ := ifSome h
        have h2 := Option.some.inj h2
        subst h2
        have e3 : (D.lst ys).toP = some (.list ds) := by
          show (D.toPs ys).map PyData.list = _
          rw [e2]
          rfl
        exact .inr (.inr ⟨p, ds, dpVd hK hd e1, dpVd hK he e3, h1.1, h1.2, rfl⟩)
      · cases h
  · cases h
theorem opIn (hK : X.K = G.K) (hu : X.A.units + 65 < cLine) : OpR X (compareOp .In) (r2 G .inn) := by
  intro pins s σ H x y v u Q I rx ry h
  obtain ⟨o, ω, ds, w, hv, hp, q⟩ := h
  obtain ⟨d, e, rfl, h1, h2⟩ := vds2 hv
  obtain ⟨b, hb, rfl⟩ := ofB_some (show ofB (pIn d e) = some w from hp)
  rcases in_cases hK h1 h2 hb with ⟨c, z, rfl, rfl, rfl⟩ | ⟨p, xs, rfl, k1, k2, k3, rfl⟩ | ⟨p, ds, k1, k2, k3, k4, rfl⟩
  · exact op_in_sign pins s σ H _ _ v u Q I rx ry ⟨c, z, rfl, rfl, q_bl q⟩
  · exact op_in_seq pins s σ H _ _ v u Q I rx ry ⟨p, xs, rfl, k1, k2, k3, q_bl q⟩
  · exact op_inD hu pins s σ H _ _ v u Q I rx ry ⟨p, ds, k1, k2, k3, k4, q_bl q⟩
theorem opNotIn (hK : X.K = G.K) (hu : X.A.units + 65 < cLine) : OpR X (compareOp .NotIn) (r2 G .notin) := by
  intro pins s σ H x y v u Q I rx ry h
  obtain ⟨o, ω, ds, w, hv, hp, q⟩ := h
  obtain ⟨d, e, rfl, h1, h2⟩ := vds2 hv
  obtain ⟨b, hb, rfl⟩ := ofB_some (show ofB ((pIn d e).map (!·)) = some w from hp)
  obtain ⟨b', hb', rfl⟩ := Option.map_eq_some_iff.mp hb
  rcases in_cases hK h1 h2 hb' with ⟨c, z, rfl, rfl, rfl⟩ | ⟨p, xs, rfl, k1, k2, k3, rfl⟩ | ⟨p, ds, k1, k2, k3, k4, rfl⟩
  · exact op_notIn_sign pins s σ H _ _ v u Q I rx ry ⟨c, z, rfl, rfl, q_bl q⟩
  · exact op_notIn_seq pins s σ H _ _ v u Q I rx ry ⟨p, xs, rfl, k1, k2, k3, q_bl q⟩
  · exact op_notInD hu pins s σ H _ _ v u Q I rx ry ⟨p, ds, k1, k2, k3, k4, q_bl q⟩
theorem cmpIn : Cmp .inn := cmp2 (fun _ => rfl) (fun _ _ _ => rfl) fun _ _ _ h => ofB_bl h
theorem cmpNotIn : Cmp .notin := cmp2 (fun _ => rfl) (fun _ _ _ => rfl) fun _ _ _ h => ofB_bl h
/-- what a text's method of one asks -/
def StrM (G : Gm) (p : P) (r : V → List V → Hp → VK → Prop) : Prop := ∀ x y H Q, rP G p [x, y] H Q → (∃ a, x = .str a) ∧ r x [y] H Q
theorem dats_strs {ω : Om} {H : Hp} : ∀ l : List Str, Dats G ω H (l.map D.str) (l.map V.str)
  | [] => Dats.nil
  | a :: l => Dats.cons (by unfold Dat; rfl) (dats_strs l)
theorem dStrs_vals {ω : Om} {H : Hp} : ∀ {ds : List D} {vs : List V} {l : List Str}, Dats G ω H ds vs → dStrs ds = some l → vs = l.map V.str
  | [], vs, l, h, e => by
    unfold Dats at h
    subst h
    cases e
    rfl
  | d :: ds, vs, l, h, e => by
    unfold Dats at h
    obtain ⟨v, r, rfl, h1, h2⟩ := h
    cases d with
    | str a =>
      unfold Dat at h1
      subst h1
      unfold dStrs at e
      cases e2 : dStrs ds with
      | none => rw [e2] at e; cases e
      | some m =>
        rw [e2] at e
        cases e
        rw [List.map_cons, dStrs_vals h2 e2]
    | _ => unfold dStrs at e; cases e
theorem mSplit : StrM G .split (fun x xs H Q => ∃ a b, x = .str a ∧ xs = [.str b] ∧ (b.length == 0) = false ∧ a.length + 2 ≤ sizeLine ∧ rNewStrs (Txt.split a b) H Q) := fun x y H Q h => by
  obtain ⟨o, ω, ds, w, hv, hp, q⟩ := h
  obtain ⟨d, e, rfl, h1, h2⟩ := vds2 hv
  have hp : pSplit d e = some w := hp
  unfold pSplit at hp
  split at hp
  · rename_i a b _
    obtain ⟨⟨k1, k2⟩, hp⟩ := ifSome hp
    cases hp
    cases vdS h1
    cases vdS h2
    exact ⟨⟨a, rfl⟩, a, b, rfl, rfl, by simpa using k1, k2, fun p hp => q_lst q (dats_strs _) p hp⟩
  · cases hp
theorem mPart : StrM G .part (fun x xs H Q => ∃ a b, x = .str a ∧ xs = [.str b] ∧ (b.length == 0) = false ∧ a.length ≤ sizeLine ∧
    ∀ p, H p = none → Q (.ref p) (upd H p (.tup [.str (Txt.partition a b).1, .str (Txt.partition a b).2.1, .str (Txt.partition a b).2.2]))) := fun x y H Q h => by
  obtain ⟨o, ω, ds, w, hv, hp, q⟩ := h
  obtain ⟨d, e, rfl, h1, h2⟩ := vds2 hv
  have hp : pPart d e = some w := hp
  unfold pPart at hp
  split at hp
  · rename_i a b _
    obtain ⟨⟨k1, k2⟩, hp⟩ := ifSome hp
    have := vdSome hp
    subst this
    cases vdS h1
    cases vdS h2
    exact ⟨⟨a, rfl⟩, a, b, rfl, rfl, by simpa using k1, k2, fun p hp => q_tup q (dats_strs [_, _, _]) p hp⟩
  · cases hp
theorem mJoin (hK : X.K = G.K) : StrM G .join (fun x xs H Q => ∃ a p, ∃ ys : List Str, x = .str a ∧ xs = [.ref p] ∧ (SqL X.K H p (ys.map V.str) ∨ SqT X.K H p (ys.map V.str)) ∧
    (ys.map (·.length)).sum + ys.length * a.length ≤ 16777216 ∧ Q (.str (Txt.join a ys)) H) := fun x y H Q h => by
  obtain ⟨o, ω, ds, w, hv, hp, q⟩ := h
  obtain ⟨d, e, rfl, h1, h2⟩ := vds2 hv
  have hp : pJoin d e = some w := hp
  unfold pJoin at hp
  split at hp
  · rename_i a xs _
    unfold joinD at hp
    split at hp
    · rename_i ys e1
      obtain ⟨k1, hp⟩ := ifSome hp
      have := vdSome hp
      subst this
      cases vdS h1
      obtain ⟨b, vs, rfl, k2, k3⟩ := vdL h2
      have := dStrs_vals k3 e1
      subst this
      exact ⟨⟨a, rfl⟩, a, b, ys, rfl, rfl, .inl (SqL.of k2), k1, q_str q⟩
    · cases hp
  · rename_i a xs _
    unfold joinD at hp
    split at hp
    · rename_i ys e1
      obtain ⟨k1, hp⟩ := ifSome hp
      have := vdSome hp
      subst this
      cases vdS h1
      obtain ⟨b, vs, rfl, k2, k3, _⟩ := vdT h2
      have := dStrs_vals k3 e1
      subst this
      exact ⟨⟨a, rfl⟩, a, b, ys, rfl, rfl, .inr (by rw [hK]; exact k2), k1, q_str q⟩
    · cases hp
  · cases hp
variable {A : Amb} {Wx : WX} {F : Fe} {p : P} {r : V → List V → Hp → VK → Prop} {o e : Expr} {co ce : CE} {apos pos : Pos} {id : String} {name : Str}
theorem tas_k {d : D} {v : V} {σ : L2.St} {H : Hp} {Q : List V → Hp → Prop} (hd : ∀ ω H, Dat G ω H d v) (h : TAv G A Wx F (.cons (.k d) .nil) σ H Q) : Q [v] H := by
  have h1 : TEv G A Wx F (.k d) σ H fun x H1 => tNil σ H1 fun xs H2 => Q (x :: xs) H2 := tg_imp (tas_cons h) fun _ _ h => tas_nil h
  exact tevK hd h1
/-- x.m(k), k a constant -/
theorem peStrA {d : D} {v : V} (hd : ∀ ω H, Dat G ω H d v) (slot : Slot "str" name id) (ty : typeOf (.builtin id) = pure (.type "method_descriptor")) (rule : MtR X id r) (hr : StrM G p r) (ho : PE X o (TAr G A Wx F co)) (he : PE X e (tC v))
    (hs : starEach [e] X.env = [(false, eval e X.env)]) (hbase : attributeBase o name X.env (eval o X.env) = eval o X.env) (hline : (apos.endLine == pos.line) = true) :
    PE X (.Call (.Attribute o name apos) [e] [] pos) (TEv G A Wx F (.prim p (.cons co (.cons (.k d) .nil)))) :=
  peImp (pe_m1 slot ty rule ho he hs hbase hline) fun σ H Q h => tg_imp (tas_cons (prim_end h)) fun x H1 h1 => by
    have := tas_k hd h1
    exact hr _ _ _ _ this
/-- k.m(y), k a constant -/
theorem peStrO {a : Str} (slot : Slot "str" name id) (ty : typeOf (.builtin id) = pure (.type "method_descriptor")) (rule : MtR X id r) (hr : StrM G p r) (ho : PE X o (tC (.str a))) (he : PE X e (TAr G A Wx F ce))
    (hs : starEach [e] X.env = [(false, eval e X.env)]) (hbase : attributeBase o name X.env (eval o X.env) = eval o X.env) (hline : (apos.endLine == pos.line) = true) :
    PE X (.Call (.Attribute o name apos) [e] [] pos) (TEv G A Wx F (.prim p (.cons (.k (.str a)) (.cons ce .nil)))) :=
  peImp (pe_m1 slot ty rule ho he hs hbase hline) fun σ H Q h => by
    have h0 : TEv G A Wx F (.k (.str a)) σ H fun x H1 => TAv G A Wx F (.cons ce .nil) σ H1 fun vs H2 => rP G p (x :: vs) H2 Q := tg_imp (tas_cons (prim_end h)) fun _ _ h => h
    have h1 := tevK (v := .str a) (fun ω H => by unfold Dat; rfl) h0
    exact ⟨⟨a, rfl⟩, tg_imp (tas_cons h1) fun y H2 h2 => (hr _ _ _ _ (tas_nil h2)).2⟩
theorem indexF_some {a : D} : ∀ {xs : List D} {k : Nat} {w : W}, indexF xs a k = some w → ∃ j z, xs[j]? = some z ∧ eqF z a = true ∧ (∀ m z', m < j → xs[m]? = some z' → eqF z' a = false) ∧ w = .val (.int ((k + j : Nat) : Int))
  | [], k, w, h => by cases h
  | x :: r, k, w, h => by
    unfold indexF at h
    cases e : eqF x a with
    | true =>
      rw [e, if_pos rfl] at h
      exact ⟨0, x, rfl, e, fun m z' hm => absurd hm (Nat.not_lt_zero m), viSome h⟩
    | false =>
      rw [e, if_neg Bool.false_ne_true] at h
      obtain ⟨j, z, h1, h2, h3, h4⟩ := indexF_some h
      refine ⟨j + 1, z, by simpa using h1, h2, fun m z' hm hz => ?_, ?_⟩
      · cases m with
        | zero => simp at hz; subst hz; exact e
        | succ m => exact h3 m z' (by omega) (by simpa using hz)
      · rw [h4]
        have : k + 1 + j = k + (j + 1) := by omega
        rw [this]
theorem type_list_index : typeOf (.builtin "list.index") = pure (.type "method_descriptor") := by show builtinType _ = _; rw [builtinType_eq_fast]; kernel_rfl
theorem peIndex {i : Nat} {d : D} {v : V} (hK : X.K = G.K) (hd : ∀ ω H, Dat G ω H d v) (ho : PE X o (TAr G A Wx F (.v i))) (he : PE X e (tC v))
    (hbase : attributeBase o "index" X.env (eval o X.env) = eval o X.env)
    (hfew : ((backTo pos (starEach [e] X.env)).all (fun x => !x.1) && (backToKw pos (keywordEach [] X.env)).all (fun x => x.1.isSome)
      && decide (([e] : List Expr).length + ([] : List Keyword).length + (if ([] : List Keyword).isEmpty then 0 else 1) < 30)) = true)
    (hline : (apos.endLine == pos.line) = true) (hs : starEach [e] X.env = (false, eval e X.env) :: starEach [] X.env) (hplain : (backTo pos (starEach [] X.env)).any (·.1) = false) :
    PE X (.Call (.Attribute o "index" apos) [e] [] pos) (TEv G A Wx F (.prim .index (.cons (.v i) (.cons (.k d) .nil)))) :=
  peImp (pe_bm PySem.F.plainAttrs_list PySem.F.slot_list_index type_list_index mt_index ho (pa_cons he pa_nil hs) hbase hfew hline hs hplain) fun σ H Q h => tg_imp (tas_cons (prim_end h)) fun x H1 h1 => by
    obtain ⟨o, ω, ds, w, hv, hp, q⟩ := tas_k hd h1
    obtain ⟨d1, e1, rfl, k1, k2⟩ := vds2 hv
    have hp : pIndex d1 e1 = some w := hp
    unfold pIndex at hp
    split at hp
    · rename_i ys _
      obtain ⟨⟨f1, f2⟩, hp⟩ := ifSome hp
      obtain ⟨a, vs, rfl, k3, k4⟩ := vdL k1
      obtain ⟨j, z, j1, j2, j3, rfl⟩ := indexF_some hp
      obtain ⟨zv, z1, z2⟩ := k4.get j1
      have fz := List.all_eq_true.mp f2 z (List.mem_of_getElem? j1)
      refine ⟨.inl ⟨rfl, vs, SqL.of k3⟩, a, vs, v, j, zv, rfl, rfl, SqL.of k3, (flat_vd k2 f1).1, flat_all k4 f2, z1, by rw [(flat_vd z2.vd fz).2 _ _ k2 f1]; exact j2, fun m z' hm hz => ?_, by
        have := q_int q
        simpa using this⟩
      have hml : m < ys.length := by rw [k4.length]; exact lt_of_get hz
      have hy : ys[m]? = some ys[m] := List.getElem?_eq_getElem hml
      obtain ⟨zv', z1', z2'⟩ := k4.get hy
      rw [hz] at z1'
      cases z1'
      have fz' := List.all_eq_true.mp f2 _ (List.mem_of_getElem? hy)
      rw [(flat_vd z2'.vd fz').2 _ _ k2 f1]
      exact j3 m _ hm hy
    · cases hp
end
end Ev

set_option Elab.async false
set_option linter.all false
set_option maxRecDepth 100000
set_option maxHeartbeats 4000000
namespace Ev
open PySem PySem.Spec PyProof.Rows L2
theorem wipe_get {σ : L2.St} {j : Nat} : ∀ {vs : List Nat}, (wipe σ vs)[j]? = if j ∈ vs then (if j < σ.length then some none else none) else σ[j]?
  | [] => by simp [wipe]
  | v :: vs => by
    unfold wipe
    by_cases e : v = j
    · subst e
      rw [if_pos List.mem_cons_self]
      by_cases h : v < σ.length
      · rw [if_pos h, List.getElem?_set_self (by rw [wipe_length]; exact h)]
      · rw [if_neg h, List.getElem?_eq_none (by rw [List.length_set, wipe_length]; omega)]
    · rw [List.getElem?_set_ne e, wipe_get]
      have e1 : j ∈ v :: vs ↔ j ∈ vs := by simp [Ne.symm e]
      simp only [e1]
theorem wipe_set {σ : L2.St} {i : Nat} {u : Option V} {vs : List Nat} (h : i ∈ vs) : wipe (σ.set i u) vs = wipe σ vs := by
  refine List.ext_getElem? fun j => ?_
  rw [wipe_get, wipe_get, List.length_set]
  by_cases hj : j ∈ vs
  · rw [if_pos hj, if_pos hj]
  · rw [if_neg hj, if_neg hj, List.getElem?_set_ne (fun e : i = j => hj (by rw [← e]; exact h))]
theorem wipe_wipe {σ : L2.St} {vs : List Nat} : wipe (wipe σ vs) vs = wipe σ vs := by
  refine List.ext_getElem? fun j => ?_
  rw [wipe_get, wipe_get, wipe_length]
  by_cases hj : j ∈ vs
  · simp only [if_pos hj]
  · simp only [if_neg hj]
theorem wipeG_get {g : Sg} : ∀ {tg : List Nat} {g' : Sg}, wipeG g tg = some g' → g'.length = g.length ∧ (∀ i, i ∉ tg → g'[i]? = g[i]?) ∧ ∀ i, i ∈ tg → g'[i]? = some none ∧ (g[i]? = some none ∨ ∃ d, g[i]? = some (some (.val d)))
  | [], g', h => by
    cases h
    exact ⟨rfl, fun _ _ => rfl, fun i hi => by simp at hi⟩
  | j :: tg, g', h => by
    unfold wipeG at h
    cases e : wipeG g tg with
    | none => rw [e] at h; cases h
    | some g1 =>
      rw [e] at h
      obtain ⟨h1, h2, h3⟩ := wipeG_get e
      dsimp only at h
      split at h
      · rename_i e2
        cases h
        refine ⟨h1, fun i hi => h2 i fun z => hi (List.mem_cons_of_mem _ z), fun i hi => ?_⟩
        by_cases hm : i ∈ tg
        · exact h3 i hm
        · have : i = j := by simpa [hm] using hi
          subst this
          exact ⟨e2, .inl (by rw [← h2 i hm]; exact e2)⟩
      · rename_i d e2
        cases h
        refine ⟨by rw [List.length_set]; exact h1, fun i hi => ?_, fun i hi => ?_⟩
        · have ne : j ≠ i := fun z => hi (by rw [z]; exact List.mem_cons_self)
          rw [List.getElem?_set_ne ne]
          exact h2 i fun z => hi (List.mem_cons_of_mem _ z)
        · by_cases hj : j = i
          · subst hj
            refine ⟨List.getElem?_set_self (lt_of_get e2), ?_⟩
            by_cases hm : j ∈ tg
            · have := (h3 j hm).1
              rw [this] at e2
              cases e2
            · exact .inr ⟨d, by rw [← h2 j hm]; exact e2⟩
          · have hm : i ∈ tg := by
              rcases List.mem_cons.mp hi with z | z
              · exact absurd z.symm hj
              · exact z
            rw [List.getElem?_set_ne hj]
            exact h3 i hm
      · cases h
theorem restG_get {g0 : Sg} : ∀ {tg : List Nat} {g : Sg} {i : Nat}, (restG g0 tg g).length = g.length ∧ ((restG g0 tg g)[i]? = if i ∈ tg then (if i < g.length then some (g0.getD i none) else none) else g[i]?)
  | [], g, i => by simp [restG]
  | j :: tg, g, i => by
    unfold restG
    obtain ⟨h1, h2⟩ := restG_get (g0 := g0) (tg := tg) (g := g.set j (g0.getD j none)) (i := i)
    refine ⟨by rw [h1, List.length_set], ?_⟩
    rw [h2, List.length_set]
    by_cases hm : i ∈ tg
    · rw [if_pos hm, if_pos (List.mem_cons_of_mem _ hm)]
    · rw [if_neg hm]
      by_cases hj : j = i
      · subst hj
        rw [if_pos List.mem_cons_self]
        by_cases hl : j < g.length
        · rw [if_pos hl, List.getElem?_set_self hl]
        · rw [if_neg hl, List.getElem?_eq_none (by rw [List.length_set]; omega)]
      · rw [List.getElem?_set_ne hj, if_neg (by simp [hm, Ne.symm hj])]
section
variable {G : Gm} {A A2 : Amb} {Wx : WX} {F : Fe} {pin : List Nat} {X : Cx} {σ : L2.St} {g g1 g2 g3 : Sg} {τ : Tm} {H H' : Hp} {ω ω' : Om} {vs tg : List Nat}
theorem Stt.wiped (S : Stt G A σ g τ H ω) (h : wipeG g tg = some g2) (hv : ∀ i, i ∈ vs ↔ i ∈ tg) (hp : ∀ p ∈ A.pin, p.1 ∉ tg) : Stt G A (wipe σ vs) g2 τ H ω := by
  obtain ⟨h1, h2, h3⟩ := wipeG_get h
  refine ⟨by rw [h1, wipe_length]; exact S.len, fun i w e => ?_, fun k v w t e => ?_, S.tie, fun p hm => ?_, S.dom, S.fr, S.fx, S.fn⟩
  · have hm : i ∉ tg := fun z => by rw [(h3 i z).1] at e; cases e
    rw [h2 i hm] at e
    obtain ⟨v, q1, q2⟩ := S.slot i w e
    exact ⟨v, by rw [wipe_get, if_neg fun z => hm ((hv i).mp z)]; exact q1, q2⟩
  · obtain ⟨q1, q2⟩ := S.temp k v w t e
    refine ⟨q1, fun i z => ?_⟩
    obtain ⟨q3, q4⟩ := q2 i z
    have hm : i ∉ tg := fun z => by
      rcases (h3 i z).2 with k | ⟨d, k⟩
      · rw [k] at q4; cases q4
      · rw [k] at q4; cases q4
    exact ⟨by rw [wipe_get, if_neg fun z => hm ((hv i).mp z)]; exact q3, by rw [h2 i hm]; exact q4⟩
  · rw [wipe_get, if_neg fun z => hp p hm ((hv _).mp z)]
    exact S.pin p hm
theorem Stt.unwipe {τ1 : Tm} (S : Stt G A σ g1 τ1 H ω) (S' : Stt G A2 (wipe σ vs) g3 τ H' ω') (h : wipeG g1 tg = some g2) (hv : ∀ i, i ∈ vs ↔ i ∈ tg) (ex : Ext H ω H' ω') (ht : ∀ (k : Nat) (v : V) (w : W) (i : Nat), τ[k]? = some (v, w, some i) → i ∉ tg) :
    Stt G A2 σ (restG g1 tg g3) τ H' ω' := by
  obtain ⟨h1, h2, h3⟩ := wipeG_get h
  have hl : g3.length = σ.length := by rw [S'.len, wipe_length]
  refine ⟨by rw [(restG_get (i := 0)).1]; exact hl, fun i w e => ?_, fun k v w t e => ?_, S'.tie, fun p hm => ?_, S'.dom, S'.fr, S'.fx, S'.fn⟩
  · rw [restG_get.2] at e
    by_cases hm : i ∈ tg
    · rw [if_pos hm] at e
      by_cases hi : i < g3.length
      · rw [if_pos hi] at e
        have e2 : g1.getD i none = some w := Option.some.inj e
        rcases (h3 i hm).2 with k | ⟨d, k⟩
        · rw [List.getD_eq_getElem?_getD, k] at e2
          cases e2
        · rw [List.getD_eq_getElem?_getD, k] at e2
          cases e2
          obtain ⟨v, q1, q2⟩ := S.slot i _ k
          exact ⟨v, q1, Dat.mono ex _ _ q2⟩
      · rw [if_neg hi] at e; cases e
    · rw [if_neg hm] at e
      obtain ⟨v, q1, q2⟩ := S'.slot i w e
      exact ⟨v, by rw [wipe_get, if_neg fun z => hm ((hv i).mp z)] at q1; exact q1, q2⟩
  · obtain ⟨q1, q2⟩ := S'.temp k v w t e
    refine ⟨q1, fun i z => ?_⟩
    obtain ⟨q3, q4⟩ := q2 i z
    subst z
    have hm := ht k v w i e
    exact ⟨by rw [wipe_get, if_neg fun z => hm ((hv i).mp z)] at q3; exact q3, by rw [restG_get.2, if_neg hm]; exact q4⟩
  · exact (wipe_some (S'.pin p hm)).1
theorem setAll_okW {Q : L2.St → Hp → Prop} : ∀ {is : List Nat} {ds : List D} {us : List V} {g g' : Sg} {σ : L2.St} {ω : Om}, (∀ p ∈ A.pin, p.1 ∉ is) → (∀ i ∈ is, i ∈ vs) → Stt G A σ g τ H ω → Dats G ω H ds us → setAll is ds g = some g' →
    (∀ σ' ω', Stt G A σ' g' τ H ω' → wipe σ' vs = wipe σ vs → Q σ' H) → gNs is us σ H Q
  | [], [], us, g, g', σ, ω, ap, hv, S, hd, h, q => by
    unfold Dats at hd
    simp [setAll] at h
    subst h
    exact ⟨hd, q _ _ S rfl⟩
  | [], _ :: _, _, _, _, _, _, _, _, _, _, h, _ => by simp [setAll] at h
  | _ :: _, [], _, _, _, _, _, _, _, _, _, h, _ => by simp [setAll] at h
  | i :: is, d :: ds, us, g, g', σ, ω, ap, hv, S, hd, h, q => by
    unfold Dats at hd
    obtain ⟨v, r, rfl, h1, h2⟩ := hd
    unfold setAll at h
    split at h
    · cases h
    · rename_i u hne e
      obtain ⟨ω1, S1, e1⟩ := S.setv (i := i) h1 (lt_of_get e) (fun z => by rw [e] at z; cases z; exact hne rfl) fun p hp z => ap p hp (by rw [z]; simp)
      refine ⟨v, r, rfl, setAll_okW (fun p hp z => ap p hp (List.mem_cons_of_mem _ z)) (fun j hj => hv j (List.mem_cons_of_mem _ hj)) S1 (Dats.mono e1 _ _ h2) h fun σ' ω' S' hw => q σ' ω' S' ?_⟩
      rw [hw, wipe_set (hv i List.mem_cons_self)]
    · cases h
theorem setAll_len : ∀ {is : List Nat} {ds : List D} {g g' : Sg}, setAll is ds g = some g' → is.length = ds.length
  | [], [], _, _, _ => rfl
  | [], _ :: _, _, _, h => by simp [setAll] at h
  | _ :: _, [], _, _, h => by simp [setAll] at h
  | i :: is, d :: ds, g, g', h => by
    unfold setAll at h
    split at h
    · cases h
    · simp [setAll_len h]
    · cases h
theorem setTg_okW {tup : Bool} {d : D} {g' : Sg} {v : V} {Q : L2.St → Hp → Prop} (hK : X.K = G.K) (ap : ∀ p ∈ A.pin, p.1 ∉ tg) (hv : ∀ i ∈ tg, i ∈ vs) (S : Stt G A σ g τ H ω) (hd : Dat G ω H d v) (h : setTg tg tup d g = some g')
    (q : ∀ σ' ω', Stt G A σ' g' τ H ω' → wipe σ' vs = wipe σ vs → Q σ' H) : gTgt X.K tg tup v σ H Q := by
  cases tup with
  | false =>
    have h : setAll tg [d] g = some g' := h
    have r := setAll_okW ap hv S (Dats.one hd) h q
    have hl := setAll_len h
    match tg, hl, r with
    | [i], _, r =>
      obtain ⟨v', r', e, h1⟩ := r
      cases e
      obtain ⟨_, h1⟩ : _ ∧ Q _ H := h1
      exact h1
  | true =>
    unfold setTg at h
    dsimp only at h
    split at h
    · rename_i ds
      unfold Dat at hd
      obtain ⟨a, us, rfl, h1, h2⟩ := hd
      exact ⟨a, us, rfl, by rw [hK]; exact h1.sq, by rw [← h2.length, ← setAll_len h], setAll_okW ap hv S h2 h q⟩
    · cases h
/-- the walk's end with a value -/
theorem leave_ret {σ' : L2.St} {g' : Sg} {us : List V} {bk : List (W × Option Nat)} {v : V} {w : W} (S : Stt G A σ g (τ ++ mkT us bk) H ω) (hl : us.length = bk.length) (S' : Stt G (maskA H (lentx τ.length ω) A.pin) σ' g' (τ ++ mkT us (outs bk) ++ [(v, w, none)]) H' ω') :
    ∃ ω2, Stt G A σ' (giveBack bk g') (τ ++ [(v, w, none)]) H' ω2 := by
  obtain ⟨en, _⟩ := S'.last
  obtain ⟨ω2, S2, e2, k2⟩ := (S.leave hl S'.less).back' hl
  have en2 := en.ren (o' := .t (τ ++ mkT us (outs bk)).length) (leave_ext S') fun a q => leave_own S' q nofun
  have hn : (τ ++ mkT us (outs bk)).length = τ.length + bk.length := by
    rw [List.length_append, mkT_len (by rw [outs_len, hl]), hl]
  rw [hn] at en2
  have en3 := en2.ren e2 fun a q => k2 a _ q fun j z => by injection z with z; omega
  exact S2.pushAt (by omega) en3
/-- inside a block: no exception goes out -/
def W0 : WX := fun _ _ _ _ => False
def TTa (G : Gm) (F : Fe) (pin : List Nat) (c : CE) : TT := fun σ H Q => ∃ A, APin A pin ∧ TTs G A W0 F c σ H Q
def TEa (G : Gm) (F : Fe) (pin : List Nat) (c : CE) : TE := fun σ H Q => ∃ A, APin A pin ∧ TEv G A W0 F c σ H Q
theorem peTEa {e : Expr} {c : CE} (h : ∀ A, APin A pin → PE X e (TEv G A W0 F c)) : PE X e (TEa G F pin c) := ⟨fun pins s σ H Q I ⟨A, ap, q⟩ => (h A ap).run pins s σ H Q I q⟩
theorem ptTTa {e : Expr} {c : CE} (h : ∀ A, APin A pin → PT X e (TTs G A W0 F c)) : PT X e (TTa G F pin c) := ⟨fun pins s σ H Q I ⟨A, ap, q⟩ => (h A ap).run pins s σ H Q I q⟩
theorem comp_tev {ci : CI} {tup : Bool} {c e : CE} {Q : VK} (hK : X.K = G.K) (ap : APin A pin) (hv : ∀ i, i ∈ vs ↔ i ∈ tg) (hp : ∀ i ∈ tg, i ∉ pin) (h : TEv G A Wx F (.comp ci tg tup c e) σ H Q) :
    tLc (TIt G A Wx (evI F ci)) (gTgt X.K tg tup) (TTa G F pin c) (TEa G F pin e) vs σ H Q := by
  obtain ⟨g, τ, ω, S, h0⟩ := h
  have h := noTie_out h0
  simp only [evE] at h
  refine ⟨g, τ, ω, S, h.bind.imp (fun a g1 k1 us J H1 ω1 hl S1 it Da hD => ?_) fun _ _ h => h⟩
  obtain ⟨ds, bk⟩ := a
  unfold endL at k1
  cases e1 : wipeG g1 tg with
  | none => rw [e1] at k1; exact k1.elim
  | some g2 =>
    rw [e1] at k1
    dsimp only at k1
    let f := turnC tg tup (evE F c) (evE F e)
    cases e2 : compL f ds g2 with
    | none => rw [e2] at k1; exact k1.elim
    | some r =>
      obtain ⟨xs, gf⟩ := r
      rw [e2] at k1
      dsimp only at k1
      by_cases hx : xs.length ≤ 100000
      case neg => rw [if_neg hx] at k1; exact k1.elim
      rw [if_pos hx] at k1
      obtain ⟨Gd, Y, w, hG, hY⟩ := it
      have S2 := S1.enter hl
      let A2 := maskA H1 (lentx τ.length ω1) A.pin
      have ap2 : APin A2 pin := ap
      have hp2 : ∀ p ∈ A2.pin, p.1 ∉ tg := fun p hm z => hp _ z (ap p hm)
      let τ2 := τ ++ mkT us (outs bk)
      have S3 : Stt G A2 (wipe σ vs) g2 τ2 H1 (lentx τ.length ω1) := S2.wiped e1 hv hp2
      have gr : Grow H1 (lentx τ.length ω1) (upd H1 Da (.lst [])) (oset (lentx τ.length ω1) Da (some (.t τ2.length))) := Grow.new hD
      refine lc_it w (fun i H' => ∃ g' ω' acc r, Stt G A2 (wipe σ vs) g' (τ2 ++ [(.ref Da, .lst acc, none)]) H' ω' ∧ compL f (ds.drop i) g' = some (r, gf) ∧ acc ++ r = xs)
        ⟨g2, _, [], xs, (S3.grow gr).push (w := .lst []) ⟨Da, [], rfl, upd_same, oset_same, Dats.nil⟩, e2, rfl⟩ ?_ ?_ ?_
      · rintro i H' _ ⟨g', ω', acc, r, S', _⟩
        exact hG _ _ S'.stay
      · rintro i x H' H2 hi ⟨g', ω', acc, r, S', hc, hr⟩ y
        have hd : ds[i]? = some ds[i] := List.getElem?_eq_getElem hi
        obtain ⟨ω3, gr3, dx⟩ := hY i H' x H2 ω' _ hd S'.stay y
        rw [List.drop_eq_getElem_cons hi] at hc
        unfold compL at hc
        cases e3 : f ds[i] g' with
        | none => rw [e3] at hc; cases hc
        | some q =>
          obtain ⟨o, g4⟩ := q
          rw [e3] at hc
          dsimp only at hc
          cases e4 : compL f (ds.drop (i + 1)) g4 with
          | none => rw [e4] at hc; cases hc
          | some q2 =>
            obtain ⟨r2, gf2⟩ := q2
            rw [e4] at hc
            have e3 : turnC tg tup (evE F c) (evE F e) ds[i] g' = some (o, g4) := e3
            unfold turnC at e3
            cases e5 : setTg tg tup ds[i] g' with
            | none => rw [e5] at e3; cases e3
            | some h1 =>
              rw [e5] at e3
              dsimp only at e3
              cases e6 : evE F c h1 with
              | none => rw [e6] at e3; cases e3
              | some q3 =>
                rw [e6] at e3
                cases q3 with
                | exc x g5 => cases e3
                | ok wc h2 =>
                  dsimp only at e3
                  cases e7 : wtruth wc with
                  | none => rw [e7] at e3; cases e3
                  | some b =>
                    rw [e7] at e3
                    refine setTg_okW (A := A2) (vs := vs) hK hp2 (fun j hj => (hv j).mpr hj) (S'.grow gr3) dx e5 fun σ2 ω4 S4 hw => ⟨by rw [hw, wipe_wipe], A2, ap2, h1, _, ω4, S4, ?_⟩
                    have e8 : evT F c h1 = some (.ok b h2) := by unfold evT; rw [e6]; show ofO (wtruth wc) _ = _; rw [e7]; rfl
                    rw [e8]
                    intro H5 ω5 S5
                    cases b with
                    | true =>
                      dsimp only at e3
                      cases e9 : evE F e h2 with
                      | none => rw [e9] at e3; cases e3
                      | some q4 =>
                        rw [e9] at e3
                        cases q4 with
                        | exc x g5 => cases e3
                        | ok w2 h3 =>
                          dsimp only at e3
                          cases f1 : freeze w2 with
                          | none => rw [f1] at e3; cases e3
                          | some xd =>
                            rw [f1] at e3
                            cases f2 : wipeG h3 tg with
                            | none => rw [f2] at e3; cases e3
                            | some h4 =>
                              rw [f2] at e3
                              cases e3
                              show TEa G F pin e σ2 H5 _
                              refine ⟨A2, ap2, h2, _, ω5, S5, ?_⟩
                              show Out _ _ (noTie (evE F e h2))
                              rw [e9]
                              intro yv H6 ω6 S6
                              obtain ⟨ω7, S7, e10⟩ := S6.froze f1
                              have hyd : Dat G ω7 H6 xd yv := S7.last.1
                              have S8 := (S7.less.wiped f2 hv hp2)
                              rw [hw, wipe_wipe] at S8
                              obtain ⟨⟨D', av, ev, hD6, _, hav⟩, _⟩ := S8.last
                              cases ev
                              have hlen : av.length = acc.length := hav.length.symm
                              have hr2 : (match (some xd : Option D) with | some x => x :: r2 | none => r2, gf2) = (r, gf) := Option.some.inj hc
                              have hr3 : xd :: r2 = r := congrArg Prod.fst hr2
                              have hr4 : gf2 = gf := congrArg Prod.snd hr2
                              subst hr3 hr4
                              refine ⟨av, hD6, ?_, g4, ω7, acc ++ [xd], r2, (S8.relist hD6 (Dats.append hav (Dats.one hyd))).1, e4, by rw [← hr]; simp⟩
                              rw [hlen, sizeLine_eq]
                              have : acc.length ≤ xs.length := by rw [← hr]; simp
                              omega
                    | false =>
                      dsimp only at e3
                      cases f2 : wipeG h2 tg with
                      | none => rw [f2] at e3; cases e3
                      | some h4 =>
                        rw [f2] at e3
                        cases e3
                        have hr2 : (match (none : Option D) with | some x => x :: r2 | none => r2, gf2) = (r, gf) := Option.some.inj hc
                        have hr3 : r2 = r := congrArg Prod.fst hr2
                        have hr4 : gf2 = gf := congrArg Prod.snd hr2
                        subst hr3 hr4
                        have S8 := (S5.wiped f2 hv hp2)
                        rw [hw, wipe_wipe] at S8
                        exact ⟨g4, ω5, acc, r2, S8, e4, hr⟩
      · rintro H' ⟨g', ω', acc, r, S', hc, hr⟩
        rw [List.drop_length] at hc
        cases hc
        rw [List.append_nil] at hr
        subst hr
        have st := S'.stay
        obtain ⟨_, _, w3⟩ := wipeG_get e1
        have S4 := S2.unwipe S' e1 hv st.ext fun k v w i hk => by
          rcases get_snoc hk with hk | ⟨_, z⟩
          · have := ((S2.temp k v w _ hk).2 i rfl).2
            intro hm
            rcases (w3 i hm).2 with z | ⟨d, z⟩
            · rw [z] at this; cases this
            · rw [z] at this; cases this
          · cases z
        obtain ⟨ω5, S5⟩ := leave_ret S1 hl S4
        exact k1 _ _ _ S5
theorem tyes_of {Q : Bool → Hp → Prop} (h : TTa G F pin (.k (.bl true)) σ H Q) : tYes σ H Q := by
  obtain ⟨A, _, g, τ, ω, S, h⟩ := h
  exact h H ω S
end
end Ev

set_option Elab.async false
set_option linter.all false
set_option maxRecDepth 100000
set_option maxHeartbeats 4000000
namespace Ev
open PySem PySem.Spec PyProof.Rows L2
section
variable {G : Gm} {A : Amb} {Wx : WX} {F : Fe} {pin : List Nat} {X : Cx}
theorem tLc_tt {wi : TI} {g : L2.TG} {tt tt' : TT} {te : TE} {vs : List Nat} {σ : L2.St} {H : Hp} {Q : VK} (i : ∀ σ H Q, tt σ H Q → tt' σ H Q) (gm : ∀ v σ H (P P' : L2.St → Hp → Prop), g v σ H P → (∀ σ H, P σ H → P' σ H) → g v σ H P') (wm : ∀ σ H (P P' : It → Hp → Prop), wi σ H P → (∀ J H, P J H → P' J H) → wi σ H P') (h : tLc wi g tt te vs σ H Q) : tLc wi g tt' te vs σ H Q :=
  wm _ _ _ _ h fun J H1 h D hD => by
    obtain ⟨W, hm, turn⟩ := h D hD
    refine ⟨W, hm, fun i' m H hw => ?_⟩
    rcases turn i' m H hw with z | ⟨z, N, h1, h2⟩
    · exact .inl z
    · exact .inr ⟨z, N, h1, fun x H' y => gm _ _ _ _ _ (h2 x H' y) fun σ2 H2 ⟨q1, q2⟩ => ⟨q1, i _ _ _ q2⟩⟩
theorem gNs_mono : ∀ {is : List Nat} {vs : List V} {σ : L2.St} {H : Hp} {P P' : L2.St → Hp → Prop}, gNs is vs σ H P → (∀ σ H, P σ H → P' σ H) → gNs is vs σ H P'
  | [], vs, σ, H, P, P', h, i => ⟨h.1, i _ _ h.2⟩
  | j :: is, vs, σ, H, P, P', h, i => by
    obtain ⟨v, r, e, h⟩ := h
    exact ⟨v, r, e, gNs_mono (is := is) h i⟩
theorem gTgt_mono {K : PySem.W.Frag} {tg : List Nat} {tup : Bool} {v : V} {σ : L2.St} {H : Hp} {P P' : L2.St → Hp → Prop} (h : gTgt K tg tup v σ H P) (i : ∀ σ H, P σ H → P' σ H) : gTgt K tg tup v σ H P' := by
  cases tup with
  | true =>
    obtain ⟨a, xs, h1, h2, h3, h4⟩ := h
    exact ⟨a, xs, h1, h2, h3, gNs_mono h4 i⟩
  | false =>
    match tg, h with
    | [j], h => exact i _ _ h
theorem TIt_mono {m : Sg → Option (ER (List D × List (W × Option Nat)))} {σ : L2.St} {H : Hp} {P P' : It → Hp → Prop} (h : TIt G A Wx m σ H P) (i : ∀ J H, P J H → P' J H) : TIt G A Wx m σ H P' := by
  obtain ⟨g, τ, ω, S, h⟩ := h
  exact ⟨g, τ, ω, S, h.imp (fun a g' h vs J H' ω' hl S' it => i _ _ (h vs J H' ω' hl S' it)) fun _ _ h => h⟩
section
variable {elt tgE iter : Expr} {ifs : List Expr} {scope : Scope} {own : List (Str × Nat)} {pos : Pos} {ci : CI} {tgs : List Nat} {tup : Bool} {c e : CE} {tt : TT}
theorem comp_tLc {Q : VK} {σ : L2.St} {H : Hp} (hK : X.K = G.K) (ap : APin A pin) (hx : ∀ σ H Q, TTa G F pin c σ H Q → tt σ H Q) (hv : ∀ i, i ∈ own.map (·.2) ↔ i ∈ tgs) (hp : ∀ i ∈ tgs, i ∉ pin) (h : TEv G A Wx F (.comp ci tgs tup c e) σ H Q) :
    tLc (TIt G A Wx (evI F ci)) (gTgt X.K tgs tup) tt (TEa G F pin e) (own.map (·.2)) σ H Q :=
  tLc_tt hx (fun _ _ _ _ _ h i => gTgt_mono h i) (fun _ _ _ _ h i => TIt_mono h i) (comp_tev hK ap hv hp h)
theorem peComp (hK : X.K = G.K) (ap : APin A pin) (hc : X.calm = true) (hN : X.N.Nodup) (hi : PI X tgE iter (TIt G A Wx (evI F ci))) (ok : BlkOk X.N X.env.scope scope own)
    (hg : ∀ (s : Shared) (H : Hp) (C : Addr) (cl : List (Str × Addr)) (fp : List Addr), PG (X.blk s H scope (compEnvC scope cl C X.env) fp) tgE (gTgt X.K tgs tup)) (ht : ∀ (s : Shared) (H : Hp) (C : Addr) (cl : List (Str × Addr)) (fp : List Addr), PTs (X.blk s H scope (compEnvC scope cl C X.env) fp) ifs tt)
    (he : ∀ (s : Shared) (H : Hp) (C : Addr) (cl : List (Str × Addr)) (fp : List Addr), PE (X.blk s H scope (compEnvC scope cl C X.env) fp) elt (TEa G F pin e)) (hs : ∀ x, foldedSetIterable iter X.env x = pure x)
    (hx : ∀ σ H Q, TTa G F pin c σ H Q → tt σ H Q) (hv : ∀ i, i ∈ own.map (·.2) ↔ i ∈ tgs) (hp : ∀ i ∈ tgs, i ∉ pin) : PE X (.ListComp elt [⟨tgE, iter, ifs, 0⟩] scope pos) (TEv G A Wx F (.comp ci tgs tup c e)) :=
  peImp (pe_lc hc hN hi ok hg ht he hs) fun _ _ _ h => comp_tLc hK ap hx hv hp h
theorem psSetComp {i : Nat} {y : Str} {py spos : Pos} (hK : X.K = G.K) (ap : APin A pin) (hc : X.calm = true) (hN : X.N.Nodup) (hy : X.N[i]? = some y) (hyl : X.env.scope.names.lookup y = some .local)
    (hsw : swapsWith (.ListComp elt [⟨tgE, iter, ifs, 0⟩] scope pos) (some (.Name y py)) spos.line X.env = pure true) (hi : PI X tgE iter (TIt G A Wx (evI F ci))) (ok : BlkOk X.N X.env.scope scope own)
    (hg : ∀ (s : Shared) (H : Hp) (C : Addr) (cl : List (Str × Addr)) (fp : List Addr), PG (X.blk s H scope (compEnvC scope cl C X.env) fp) tgE (gTgt X.K tgs tup)) (ht : ∀ (s : Shared) (H : Hp) (C : Addr) (cl : List (Str × Addr)) (fp : List Addr), PTs (X.blk s H scope (compEnvC scope cl C X.env) fp) ifs tt)
    (he : ∀ (s : Shared) (H : Hp) (C : Addr) (cl : List (Str × Addr)) (fp : List Addr), PE (X.blk s H scope (compEnvC scope cl C X.env) fp) elt (TEa G F pin e)) (hs : ∀ x, foldedSetIterable iter X.env x = pure x)
    (hx : ∀ σ H Q, TTa G F pin c σ H Q → tt σ H Q) (hv : ∀ i, i ∈ own.map (·.2) ↔ i ∈ tgs) (hp : ∀ i ∈ tgs, i ∉ pin) : PS X (.Assign [.Name y py] (.ListComp elt [⟨tgE, iter, ifs, 0⟩] scope pos) spos) (TSs G A Wx (evS F pin (.set i (.comp ci tgs tup c e)))) :=
  psImp (ps_setLc hc hN hy hyl hsw hi ok hg ht he hs) fun _ _ _ h => comp_tLc hK ap hx hv hp (tss_set ap h)
end
def FnsOk (X : Cx) (G : Gm) (F : Fe) : Prop := ∀ f sem, F.fn f = some sem → ∃ a, X.mg f = some (.ref a) ∧ G.fns f = some a ∧ FnAt X G sem a
theorem peCallV {i : Nat} {x : Str} {e : Expr} {es : List Expr} {c : CA} {p pos : Pos} (ok : FnsOk X G F) (hN : X.N[i]? = some x) (hv : Vis X.env.scope x) (tk : Takes X Wx) (hes : PA X (e :: es) (TAv G A Wx F c))
    (hdb : (x == ("__debug__" : Str)) = false) (hcd : (x == ("__classdict__" : Str)) = false) (he : starEach (e :: es) X.env = (false, eval e X.env) :: starEach es X.env) (hpl : (backTo pos (starEach es X.env)).any (·.1) = false) : PE X (.Call (.Name x p) (e :: es) [] pos) (TEv G A Wx F (.callv i c)) := by
  refine ⟨fun pins s σ H Q I h => ?_⟩
  obtain ⟨g, τ, ω, S, h0⟩ := h
  have h := noTie_out h0
  simp only [evE] at h
  obtain ⟨f, hf, h⟩ := h.ofO
  unfold isFn at hf
  split at hf
  · rename_i f' e1
    cases hf
    obtain ⟨sem, e2, h⟩ := h.ofO
    · obtain ⟨a, h1, h2, ⟨⟨k, fd, ps, h3, h4, h5⟩, h6⟩⟩ := ok f sem e2
      obtain ⟨v, q1, q2⟩ := S.slot i _ e1
      have q2 : Dat G ω H (.fn f) v := q2
      unfold Dat at q2
      obtain ⟨a', rfl, q3⟩ := q2
      rw [h2] at q3
      cases q3
      have ht : TEv G A Wx F (.call f c) σ H Q := ⟨g, τ, ω, S, out_noTie (by simp only [evE]; rw [e2]; exact h)⟩
      have ht := call_tev e2 ht
      refine wpAny_Call_Name_kw (thn ((pe_var (pos := p) hN hv hdb hcd).run pins s σ H (fun v H1 => v = .ref a ∧ H1 = H) I ⟨.ref a, q1, rfl, rfl⟩) fun u s1 ⟨v, H1, I1, r1, q1⟩ => ?_)
      obtain ⟨rfl, rfl⟩ := q1
      cases r1
      refine PySem.W.callWith_K (h₀ := X.base) I.ok.mod.kin h6 (thn (hes.run pos pins s1 σ _ _ I1 ht) fun us s2 ⟨vs, H2, I2, r, q⟩ => ⟨I2.kIn, ?_⟩) he hpl
      exact run_fnS h3 h4 h5 (passAt tk σ) I2 r q
  · cases hf
theorem peEmp {pos : Pos} : PE X (.Dict [] [] pos) (TEv G A Wx F (.k .emp)) := peImp pe_dnewK fun σ H Q h p hp => by
  obtain ⟨g, τ, ω, S, h⟩ := h
  have h := noTie_out h
  have gr : Grow H ω (upd H p (.dK [])) (oset ω p none) := Grow.new hp
  exact h (.ref p) _ _ ((S.grow gr).push (w := .val .emp) (by show Dat _ _ _ _ _; unfold Dat; exact ⟨p, rfl, upd_same, oset_same⟩))
structure RaiseOk (X : Cx) (G : Gm) (c : Str) (C : Addr) : Prop where
  cls : G.cls c = some C
  mg : X.mg c = some (.ref C)
theorem psRaise0 {c : Str} {C : Addr} {e : Expr} {d : D} {pos : Pos} (hC : G.cls c = some C) (hc : X.calm = true) (tk : Takes X Wx) (hm : PMk X e (fun _ H Q => Q (.ref C) none H)) : PS X (.Raise (some e) none pos) (TSs G A Wx (evS F pin (.raise c none (.k d)))) :=
  psImp (ps_raise hc tk hm) fun D σ H h => tss_raise0 hC h fun g r q => by simp only [evE] at q; cases q; exact ⟨d, rfl⟩
end
end Ev

set_option Elab.async false
set_option linter.all false
set_option maxRecDepth 100000
set_option maxHeartbeats 4000000
namespace Ev
open PySem PySem.Spec PyProof.Rows L2 ClX
section
variable {X : Cx}
theorem pe_cinit {C0 : Addr} {c0 : Str} {e : Expr} {es : List Expr} {ta : TA} {p1 p2 pos : Pos} {pl : Sem Bool} (hg : Gl X c0) (hm : X.mg c0 = some (.ref C0)) (hdb : (c0 == ("__debug__" : Str)) = false) (R : CRead X.K C0 (.type "type"))
    (vV : PySem.W.findCls X.K (.ref C0) (.type "type") "__init__" = some (.val (.builtin "ValueError.__init__"))) (ha : PA X (e :: es) ta)
    (hc : eval (.Call (.Attribute (.Name c0 p1) "__init__" p2) (e :: es) [] pos) X.env = (do
      let ov ← eval (.Name c0 p1) X.env
      standAt p2.atName
      let (f, first) ← holding [ov] (getMethod ov "__init__" pl)
      callWith pos f first (backTo pos (starEach (e :: es) X.env)) (backToKw pos (keywordEach [] X.env))))
    (he : starEach (e :: es) X.env = (false, eval e X.env) :: starEach es X.env) (hpl : (backTo pos (starEach es X.env)).any (·.1) = false) :
    PE X (.Call (.Attribute (.Name c0 p1) "__init__" p2) (e :: es) [] pos) (tVeI X.K ta) := by
  refine ⟨fun pins s σ H Q I h => ?_⟩
  refine PySem.W.methodCall_KW (ld_glob I hg hm ?_ hdb) hc
  refine PySem.W.method_cls I.kIn R.ga (PySem.W.cls_value I.kIn R.rd vV (by decide +kernel) ?_)
  show wpAny _ _ (callWith pos (Value.builtin "ValueError.__init__") [] (backTo pos (starEach (e :: es) X.env)) []) _ _ _
  refine PyProof.Rows.callWith_method1 (thn (ha.run pos pins _ σ H _ (I.tok _) h) fun us s1 ⟨vs, H1, I1, r1, a, C, ws, ev, hl, T, ea, q⟩ => ?_) he hpl
  subst ev
  cases r1 with
  | @cons _ u0 _ ur ra rw' =>
    obtain rfl : u0 = Value.ref a := ra
    have hlen : ur.length ≤ sizeLine := by
      rw [← Paired.length rw', sizeLine_eq]
      omega
    exact oinit_ok T I1 ea hlen fun s' J => ⟨.non, H1, J, rfl, q⟩
end
/-- an exception's __init__: it keeps one field -/
def spI (K : PySem.W.Frag) (n : Str) : Sp := fun vs H Q E => ∃ (a C : Addr) (y : V), vs = [.ref a, y] ∧ OexC K C ∧ PySem.W.findIn K (.ref C) n = some none ∧ H a = some (exo a C none) ∧
  ∀ dx, H dx = none → dx ≠ a → Q .non (upd (upd H dx (exd dx [(n, y)])) a (exo a C (some dx)))
/-- what is told of an own exception's class with a field -/
structure Exc1At (X : Cx) (G : Gm) (c n : Str) (C : Addr) : Prop where
  cls : G.cls c = some C
  mg : X.mg c = some (.ref C)
  oex : OexC X.K C
  no : PySem.W.findIn X.K (.ref C) n = some none
  ini : ∃ fI k fd ps, PySem.W.findIn X.K (.ref C) "__init__" = some (some (.ref fI)) ∧ PySem.W.typeIn X.K (.ref fI) = some (.type "function") ∧ FnOk X.prog X.w X.K X.mg X.base (L2.CX X.prog X.w) k fI fd ps (spI X.K n) ∧ Room (k + 1) X.A ∧ Binds X.K fd ps []
section
variable {G : Gm} {A : Amb} {Wx : WX} {F : Fe} {pin : List Nat} {X : Cx}
theorem psRaise1 {c n : Str} {C : Addr} {e : Expr} {ce : CE} {p pos pos' : Pos} (R : Exc1At X G c n C) (hc : X.calm = true) (hg : Gl X c) (tk : Takes X Wx) (he : PE X e (TEv G A Wx F ce)) (hdb : (c == ("__debug__" : Str)) = false)
    (hs : starEach [e] X.env = (false, eval e X.env) :: starEach [] X.env) (hpl : (backTo pos' (starEach [] X.env)).any (·.1) = false) :
    PS X (.Raise (some (.Call (.Name c p) [e] [] pos')) none pos) (TSs G A Wx (evS F pin (.raise c (some n) ce))) := by
  obtain ⟨fI, k, fd, ps, i1, i2, i3, i4, i5⟩ := R.ini
  refine psImp (ps_raise hc tk (pmk_oex R.oex i1 i2 i3 i4 i5 .nil passL hg R.mg (pa_cons he pa_nil hs) hdb hs hpl)) fun D σ H h => ?_
  refine tg_imp (tss_raise1 R.cls h) fun y H1 q => ?_
  refine ⟨by simp, fun a ha => ⟨a, C, y, rfl, R.oex, R.no, upd_same, fun dx hdx hne => ⟨rfl, dx, [(n, y)], upd_same, by rw [upd_ne hne, upd_same], by rwa [upd_ne hne] at hdx, ?_⟩⟩⟩
  have e1 : upd (del (upd (upd (upd H1 a (exo a C none)) dx (exd dx [(n, y)])) a (exo a C (some dx))) a) dx (.xd [(n, y)]) = upd H1 dx (.xd [(n, y)]) := by
    funext b
    by_cases h1 : b = dx
    · rw [h1, upd_same, upd_same]
    · rw [upd_ne h1, upd_ne h1]
      by_cases h2 : b = a
      · rw [h2, del_same, ha]
      · rw [del_ne h2, upd_ne h2, upd_ne h1, upd_ne h2]
  rw [e1]
  exact q dx (by rwa [upd_ne hne] at hdx)
end
end Ev

set_option Elab.async false
set_option linter.all false
set_option maxRecDepth 100000
set_option maxHeartbeats 4000000
namespace Ev
open PySem PySem.Spec PyProof.Rows L2
section
variable {G : Gm} {A : Amb} {Wx : WX} {F : Fe} {pin : List Nat} {X : Cx}
/-- p[0], d = divmod(p[0], n) -/
def gDm (K : PySem.W.Frag) (i d : Nat) : L2.TG := gTup K 2 (gCons (gSub (tVar i) (tC (.int 0)) rSetL) (gCons (gName d) gNil))
theorem tss_dm {i d : Nat} {es : CA} {D : Ends} {σ : L2.St} {H : Hp} (hK : X.K = G.K) (ap : APin A pin) (h : TSs G A Wx (evS F pin (.dm i d es)) D σ H) : tAsg (TEv G A Wx F (.prim .divmod es)) (gDm X.K i d) D σ H := by
  obtain ⟨g, τ, ω, S, h⟩ := h
  simp only [evS] at h
  refine tev_of S h fun w g1 v H1 ω1 S1 h => ?_
  unfold dmG at h
  split at h
  · rename_i a b
    split at h
    · rename_i y r e
      have hd : Dat G ω1 H1 (.tup [a, b]) v := S1.last.1
      unfold Dat at hd
      obtain ⟨t, us, rfl, h1, h2⟩ := hd
      unfold Dats at h2
      obtain ⟨va, us2, rfl, ha, h2⟩ := h2
      unfold Dats at h2
      obtain ⟨vb, us3, rfl, hb, h2⟩ := h2
      unfold Dats at h2
      subst h2
      obtain ⟨o, ω2, ho, S2, e2⟩ := S1.less.take e nofun
      obtain ⟨⟨p, ps, rfl, k1, k2, k3⟩, _⟩ := S2.last
      have k3' := k3
      unfold Dats at k3
      obtain ⟨vy, pr, rfl, k4, k5⟩ := k3
      have ha2 := Dat.mono e2 _ _ ha
      obtain ⟨S3, e3⟩ := S2.relist k1 (Dats.cons ha2 k5)
      obtain ⟨ω4, S4, e4⟩ := S3.put
      have hb4 := Dat.mono ((e2.trans e3).trans e4) _ _ hb
      have e5 : ((g1.set i (some .out)).set i (some (.lst (a :: r)))) = g1.set i (some (.lst (a :: r))) := List.set_set ..
      rw [e5] at S4
      refine ⟨t, [va, vb], rfl, by rw [hK]; exact h1.sq, rfl, va, [vb], rfl, .ref p, ho, p, vy :: pr, 0, 0, rfl, rfl, k1, ?_, ?_⟩
      · unfold ixN; simp
      · refine ⟨vb, [], rfl, rfl, ?_⟩
        obtain ⟨ω5, S5, _, q⟩ := store_out (w := .val b) ap (S4.push (w := .val b) hb4) h
        exact q _ _ _ S5
    · exact h.elim
  · exact h.elim
theorem bS_some {α : Type} {m : Option (ER α)} : True := trivial
/-- o[i] = e -/
theorem tss_setI {i : Nat} {ix e : CE} {D : Ends} {σ : L2.St} {H : Hp} (h : TSs G A Wx (evS F pin (.setI i ix e)) D σ H) : tAsg (TEv G A Wx F e) (gSub (TAr G A Wx F (.v i)) (TEv G A Wx F ix) rSetL) D σ H := by
  obtain ⟨g, τ, ω, S, h⟩ := h
  simp only [evS] at h
  refine tev_of S h fun w g1 v H1 ω1 S1 h => ?_
  obtain ⟨d, hd, h⟩ := h.ofO
  obtain ⟨ω2, S2, e2⟩ := S1.froze hd
  refine ⟨g1, _, ω2, S2, h.bS.imp (fun a g2 h o H2 ω3 S3 => ?_) fun _ _ h => cx_kx h.less⟩
  obtain ⟨aw, t⟩ := a
  unfold setIG at h
  split at h
  · rename_i xs t' e1
    cases e1
    refine ⟨_, _, ω3, S3, out_noTie (h.bS.imp (fun j g3 h jv H3 ω4 S4 => ?_) fun _ _ h => cx_kx h.less.less)⟩
    obtain ⟨jd, hj, h1⟩ := h.ofO
    obtain ⟨r, hr, h2⟩ := h1.ofO
    have := isV_some hj
    subst this
    have hr : ofO (intD jd) (fun i => ofO (ixN xs.length i) fun k => some (Ev.D.non, xs.set k d)) = some r := hr
    obtain ⟨ji, q1, hr⟩ := ofO_ok hr
    obtain ⟨k, q2, hr⟩ := ofO_ok hr
    cases hr
    cases jd with
    | int ji' =>
      cases q1
      have hj : Dat G ω4 H3 (.int ji) jv := S4.last.1
      unfold Dat at hj
      subst hj
      obtain ⟨⟨p, ps, rfl, k1, k2, k3⟩, _⟩ := S4.less.last
      have hd4 : Dat G ω4 H3 d v := S4.less.less.last.1
      obtain ⟨S5, e5⟩ := S4.less.relist k1 (k3.set k hd4)
      obtain ⟨ω6, S6, e6⟩ := back1 S5
      refine ⟨p, ps, ji, k, rfl, rfl, k1, by rw [← k3.length]; exact q2, ?_⟩
      exact h2 _ _ _ S6.less
    | _ => cases q1
  · exact h.elim
theorem fnW_some {w : W} {f : Str} (h : fnW w = some f) : w = .val (.fn f) := by
  unfold fnW at h
  split at h
  · cases h; rfl
  · cases h
theorem call_sub {M : Model} {A : Around} {E : Value → Shared → Prop} {s : Shared} {env : Env} {l ix : Expr} {p pos : Pos} {args : List Expr} {keywords : List Keyword} {Q : Value → Shared → Prop}
    (h : wpAny M A (eval (.Subscript l ix p) env) (fun f s₁ => wpAny M A (callWith pos f [] (backTo pos (starEach args env)) (backToKw pos (keywordEach keywords env))) Q E s₁) E s) :
    wpAny M A (eval (.Call (.Subscript l ix p) args keywords pos) env) Q E s := by
  rw [show eval (.Call (.Subscript l ix p) args keywords pos) env = (do callWith pos (← eval (.Subscript l ix p) env) [] (backTo pos (starEach args env)) (backToKw pos (keywordEach keywords env))) from rfl]
  exact wpAny_bind h
/-- f(e, ..), f an item of a list -/
theorem peCallX {l ix : Expr} {cc : CE} {e : Expr} {es : List Expr} {c : CA} {p pos : Pos} (ok : FnsOk X G F) (tk : Takes X Wx) (hf : PE X (.Subscript l ix p) (TEv G A Wx F cc)) (hes : PA X (e :: es) (TAv G A Wx F c))
    (he : starEach (e :: es) X.env = (false, eval e X.env) :: starEach es X.env) (hpl : (backTo pos (starEach es X.env)).any (·.1) = false) : PE X (.Call (.Subscript l ix p) (e :: es) [] pos) (TEv G A Wx F (.callx cc c)) := by
  refine ⟨fun pins s σ H Q I h => ?_⟩
  have ht : TEv G A Wx F cc σ H (fun v H1 => ∃ f sem a, F.fn f = some sem ∧ v = .ref a ∧ G.fns f = some a ∧ TEv G A Wx F (.call f c) σ H1 Q) := by
    obtain ⟨g, τ, ω, S, h0⟩ := h
    have h := noTie_out h0
    simp only [evE] at h
    refine ⟨g, τ, ω, S, out_noTie (h.bind.imp (fun w g1 h => ?_) fun _ _ h => h)⟩
    intro v H' ω' S'
    obtain ⟨f, e1, h1⟩ := h.ofO
    obtain ⟨sem, e2, h2⟩ := h1.ofO
    have e1 := fnW_some e1
    subst e1
    have q : Dat G ω' H' (.fn f) v := S'.last.1
    unfold Dat at q
    obtain ⟨a, rfl, q3⟩ := q
    exact ⟨f, sem, a, e2, rfl, q3, g1, τ, ω', S'.less, out_noTie (by simp only [evE]; rw [e2]; exact h2)⟩
  refine call_sub (thn (hf.run pins s σ H _ I ht) fun u s1 ⟨v, H1, I1, r1, q1⟩ => ?_)
  obtain ⟨f, sem, a, e2, rfl, q3, ht⟩ := q1
  obtain ⟨a', h1, h2, ⟨⟨k, fd, ps, h3, h4, h5⟩, h6⟩⟩ := ok f sem e2
  rw [h2] at q3
  cases q3
  have ht := call_tev e2 ht
  cases r1
  refine PySem.W.callWith_K (h₀ := X.base) I.ok.mod.kin h6 (thn (hes.run pos pins s1 σ _ _ I1 ht) fun us s2 ⟨vs, H2, I2, r, q⟩ => ⟨I2.kIn, ?_⟩) he hpl
  exact run_fnS h3 h4 h5 (passAt tk σ) I2 r q
theorem strAt_some {i : Nat} {g : Sg} {x : Str} (h : strAt i g = some x) : g[i]? = some (some (.val (.str x))) := by
  unfold strAt at h
  split at h
  · rename_i e
    cases h
    exact e
  · cases h
theorem peSpl {i : Nat} {x : Str} {e : Expr} {ce : CE} {p apos pos : Pos} (hN : X.N[i]? = some x) (hv : Vis X.env.scope x) (hdb : (x == ("__debug__" : Str)) = false) (hcd : (x == ("__classdict__" : Str)) = false) (he : PE X e (TEv G A Wx F ce))
    (hs : starEach [e] X.env = [(false, eval e X.env)]) (hbase : attributeBase (.Name x p) "split" X.env (eval (.Name x p) X.env) = eval (.Name x p) X.env) (hline : (apos.endLine == pos.line) = true) :
    PE X (.Call (.Attribute (.Name x p) "split" apos) [e] [] pos) (TEv G A Wx F (.spl i ce)) :=
  peImp (pe_m1 PySem.F.slot_str_split PySem.F.type_str_split mt_split (pe_var hN hv hdb hcd) he hs hbase hline) fun σ H Q h => by
    obtain ⟨g, τ, ω, S, h0⟩ := h
    have h := noTie_out h0
    simp only [evE] at h
    obtain ⟨y, e1, h⟩ := h.ofO
    obtain ⟨v, h1, h2⟩ := S.slot i _ (strAt_some e1)
    have h2 : Dat G ω H (.str y) v := h2
    have h2' := h2
    unfold Dat at h2'
    subst h2'
    refine ⟨_, h1, ⟨y, rfl⟩, g, τ, ω, S, out_noTie (h.bind.imp (fun w g1 h => ?_) fun _ _ h => h)⟩
    intro z H2 ω2 S2
    obtain ⟨d, e2, k1⟩ := h.ofO
    have e2 := isV_some e2
    subst e2
    obtain ⟨w', e3, k2⟩ := k1.ofO
    have hz : Dat G ω2 H2 d z := S2.last.1
    have hy : Dat G ω2 H2 (.str y) (.str y) := by unfold Dat; rfl
    exact (mSplit _ _ _ _ ⟨.t τ.length, ω2, [.str y, d], w', ⟨_, _, rfl, hy.vd, _, _, rfl, hz.vd, rfl⟩, e3, fun v H' ω' gr en => k2 v H' ω' ((S2.less.grow gr).push en)⟩).2
section
open PySem.Calls PySem.W
theorem inst_hot {s : Shared} {pins pn : List (Addr × Obj)} {σ : L2.St} {H : Hp} {a C : Addr} {oe : Obj} {dd : Addr} {fs : List (Str × V)} (I : Inv (X.suite a ((a, oe) :: pn)) pins σ H s) (hz : Zc (.ref C) (some dd) oe) (hf : ∃ vs, oe.data = .fields vs) (hx : H dd = some (.xd fs)) : ∃ od, PySem.W.InstAt s.heap a oe C od ∧
    ∃ (mA : Str → Option Value) (o : Obj), od = some o ∧ s.heap.get? dd = some o ∧ (∀ n, lookIn n o = some (mA n)) ∧ ∀ f, RelO (fs.lookup f) (mA f) := by
  obtain ⟨vs, h3⟩ := hf
  have nc : PySem.W.notCls oe = true := by unfold PySem.W.notCls; rw [h3] <;> rfl
  obtain ⟨h1, _⟩ := I.pin (a, oe) (List.mem_append_left _ List.mem_cons_self)
  obtain ⟨mA, hns, hr⟩ := I.hok dd _ hx
  obtain ⟨od, ho, hl⟩ := lookIn_ns hns
  exact ⟨some od, ⟨h1, hz.1, nc, by rw [hz.2]; exact ho⟩, mA, od, rfl, ho, hl, hr⟩
def tHot (K : PySem.W.Frag) (i : Nat) (a : Addr) (cls : Value) (d : Option Addr) (f : Str) : TE := fun σ H Q => σ[i]? = some (some (.ref a)) ∧ ∃ C dd u, cls = .ref C ∧ d = some dd ∧ XfC K C ∧ PySem.W.findIn K (.ref C) f = some none ∧ H dd = some (.xd [(f, u)]) ∧ Q u H
theorem pe_hot {i : Nat} {a : Addr} {oe : Obj} {pn : List (Addr × Obj)} {cls : Value} {d : Option Addr} {e : Expr} {n : Str} {pos : Pos} (hz : Zc cls d oe) (hf : ∃ vs, oe.data = .fields vs) (pv : PE (X.suite a ((a, oe) :: pn)) e (tVar i)) (hb : attributeBase e n X.env (eval e X.env) = eval e X.env) : PE (X.suite a ((a, oe) :: pn)) (.Attribute e n pos) (tHot X.K i a cls d n) := by
  refine ⟨fun pins s σ H Q I h => ?_⟩
  obtain ⟨h1, C, dd, v, rfl, rfl, T, hno, hx, q⟩ := h
  refine attr_of hb (thn (pv.run pins s σ H (fun x H1 => x = .ref a ∧ H1 = H) I ⟨_, h1, rfl, rfl⟩) fun u s1 ⟨x, H1, I1, rx, ex, eh⟩ => ?_)
  subst ex
  subst eh
  obtain rfl : u = Value.ref a := rx
  obtain ⟨od, J, mA, o, rfl, ho, hl, hr⟩ := inst_hot (X := X) I1 hz hf hx
  obtain ⟨u, hu, ru⟩ := RelO.some_of (v := v) (o := mA n) (by have := hr n; simpa [List.lookup] using this)
  exact HandSPX.exc_get I1.kIn J T.ga T.gg T.exC (PySem.W.findObj_own T.hdC hno rfl (by rw [hl, hu])) (handed_of ru) ⟨v, H1, I1.tok _, ru, q⟩
def tHand (K : PySem.W.Frag) (i j : Nat) (s f : Str) (a : Addr) (cls : Value) (d : Option Addr) : TS :=
  tSeq (tAsg (tTup (tCons (tC (.str s)) (tCons (tHot K i a cls d f) tNil))) (gName j))
    (tSeq (tIfS (fun σ H Q => tCB (rIsi K) (tCons (tHot K i a cls d f) (tCons (tC (.ty "bool")) tNil)) σ H fun x H' => ∃ k, TruV K x H' k ∧ Q k H') (tSeq (tAsg (tC .non) (gName j)) tNext) tNext) tNext)
theorem ps_hand {i j : Nat} {n y s f : Str} {a : Addr} {oe : Obj} {pn : List (Addr × Obj)} {cls : Value} {d : Option Addr} {py np np2 py2 q bq cp ap tp p1 ap2 cp2 npp p2 p3 : Pos} {ck nk tk} (hz : Zc cls d oe) (hf : ∃ vs, oe.data = .fields vs) (hN : X.N.Nodup) (hi : X.N[i]? = some n) (hj : X.N[j]? = some y)
    (hl : X.env.scope.names.lookup n = some .local) (hy : X.env.scope.names.lookup y = some .local) (hdb : (n == ("__debug__" : Str)) = false) (hcd : (n == ("__classdict__" : Str)) = false)
    (hg : Gl X "isinstance") (hm : X.mg "isinstance" = none) (hgt : Gl X "bool") (hmt : X.mg "bool" = none) :
    PSs (X.suite a ((a, oe) :: pn)) [.Assign [.Name y py] (.Tuple [.Constant (.str s) ck cp, .Attribute (.Name n np) f ap] tk tp) p1, .If (.Call (.Name "isinstance" q) [.Attribute (.Name n np2) f ap2, .Name "bool" bq] [] cp2) [.Assign [.Name y py2] (.Constant .none nk npp) p2] [] p3] (tHand X.K i j s f a cls d) := by
  have pv : ∀ p : Pos, PE (X.suite a ((a, oe) :: pn)) (.Name n p) (tVar i) := fun p => pe_var (X := X.suite a ((a, oe) :: pn)) hi (.inl hl) hdb hcd
  have ph : ∀ p p' : Pos, PE (X.suite a ((a, oe) :: pn)) (.Attribute (.Name n p) f p') (tHot X.K i a cls d f) := fun p p' => pe_hot hz hf (pv p) rfl
  refine pss_cons (ps_set (X := X.suite a ((a, oe) :: pn)) hN hj (.inl hy) (pe_tup (pa_cons pe_str (pa_cons (ph _ _) pa_nil rfl) rfl)) rfl (.inr hy)) (pss_cons (ps_if ?_ (pss_cons (ps_set (X := X.suite a ((a, oe) :: pn)) hN hj (.inl hy) pe_non rfl (.inr hy)) pss_nil) pss_nil) pss_nil)
  exact pt_truth (X := X.suite a ((a, oe) :: pn)) (pe_callB (X := X.suite a ((a, oe) :: pn)) call_isi hg hm (by decide +kernel) (pa_cons (ph _ _) (pa_cons (pe_bltn (X := X.suite a ((a, oe) :: pn)) (v := .ty "bool") hgt hmt (by decide +kernel) rfl (by decide) (by decide)) pa_nil rfl) rfl) (by decide) (by decide) rfl rfl) fun _ => rfl
theorem tss_tryRd {b : CB} {c s f : Str} {i j : Nat} {cv : Value} {D : Ends} {σ : L2.St} {H : Hp} (hK : X.K = G.K) (he : ExcOk X.K G) (hfl : FldOk X.K G f) (ap : APin A pin) (hs : SubOk X.K G c cv) (h : TSs G A Wx (evS F pin (.tryRd b c i j s f)) D σ H) :
    TSa G (wAsK X.K cv i (tHand X.K i j s f) Wx D) pin (evB F pin b) D σ H := by
  obtain ⟨g, τ, ω, S, h⟩ := h
  simp only [evS] at h
  refine ⟨A, ap, g, τ, ω, S, ?_⟩
  cases e : evB F pin b g with
  | none => rw [e] at h; exact h.elim
  | some r =>
    rw [e] at h
    cases r with
    | nx g1 => exact h
    | ret w g1 => exact h
    | exc x g1 =>
      intro σ' cls d H' ω' S' ex
      obtain ⟨b1, hb1, h2⟩ := OutS.ofO h
      obtain ⟨C, rfl, hC, hfx⟩ := id ex
      refine ⟨b1, hs _ _ _ hb1 hC, fun hb a ha => ?_, fun hb => ?_⟩
      · subst hb
        have h3 : OutS (Cn G A τ D) (Cr G A τ D) (Cx' G A Wx τ) (exRead pin i j s f x g1) := h2
        clear h2
        unfold exRead at h3
        split at h3
        · rename_i f' dv hxf
          by_cases hp : f' = f ∧ i ∉ pin ∧ i ≠ j
          · rw [if_pos hp] at h3
            obtain ⟨rfl, hp1, hp2⟩ := hp
            split at h3
            · rename_i hi
              obtain ⟨bb, hbb, h4⟩ := OutS.ofO h3
              rw [hxf] at hfx
              obtain ⟨dd, u, rfl, ⟨hx, hωx⟩, hdu⟩ := hfx
              have hleaf := subX_leaf hb1
              have hot : ∀ (σ2 : L2.St) (H2 : Hp) (Q : VK), σ2[i]? = some (some (.ref a)) → H2 dd = some (.xd [(f', u)]) → Q u H2 → tHot X.K i a (.ref C) (some dd) f' σ2 H2 Q := fun σ2 H2 Q k1 k2 k3 => ⟨k1, C, dd, u, rfl, rfl, (he _ _ hleaf hC).2, hfl.1 _ _ hleaf hC, k2, k3⟩
              have hl : i < σ'.length := by rw [← S'.len]; exact lt_of_get hi
              have hi1 : (σ'.set i (some (V.ref a)))[i]? = some (some (.ref a)) := List.getElem?_set_self hl
              refine hot _ _ _ hi1 hx ⟨show 2 ≤ sizeLine by rw [sizeLine_eq]; decide, fun p hp3 => ?_⟩
              have gr : Grow H' ω' (upd H' p (.tup [.str s, u])) (oset ω' p none) := Grow.new hp3
              have hx2 : upd H' p (.tup [.str s, u]) dd = some (.xd [(f', u)]) := by rw [upd_ne (ne_of_none hx hp3)]; exact hx
              have hi2 : ((σ'.set i (some (V.ref a))).set j (some (V.ref p)))[i]? = some (some (.ref a)) := by rw [List.getElem?_set_ne (Ne.symm hp2)]; exact hi1
              have du2 : Dat G (oset ω' p none) (upd H' p (.tup [.str s, u])) dv u := Dat.mono gr.ext _ _ hdu
              have bt : ∃ t, tyD dv = some t ∧ tyB t "bool" = some bb := by
                unfold isTy at hbb
                cases q : tyD dv with
                | none => rw [q] at hbb; cases hbb
                | some t => rw [q] at hbb; exact ⟨t, rfl, hbb⟩
              obtain ⟨t, ht1, ht2⟩ := bt
              refine hot _ _ _ hi2 hx2 ⟨u, .ty "bool", .type t, .type "bool", bb, rfl, .ty "bool", tyX_of hK du2.vd ht1, kit_tyB ht2, bb, rfl, ?_⟩
              have fin : ∀ (v : V) (dw : Ev.D), Dat G (oset ω' p none) (upd H' p (.tup [.str s, u])) dw v → OutS (Cn G A τ D) (Cr G A τ D) (Cx' G A Wx τ) (storeG pin j (.val dw) g1) → upd H' p (.tup [.str s, u]) a = none → ∃ C', Value.ref C = .ref C' ∧ D.nx ((σ'.set j (some v)).set i none) (upd (upd H' p (.tup [.str s, u])) a (XO a C' (some dd))) := fun v dw hd hst hn => by
                have S1 := (S'.grow gr).push (w := .val dw) hd
                obtain ⟨ω2, S2, _, k⟩ := store_out ap S1 hst
                exact ⟨C, rfl, k _ _ _ ((S2.grow (Grow.new (o := XO a C (some dd)) (x := none) hn)).setn (by rw [List.getElem?_set_ne (Ne.symm hp2)]; exact hi) fun p hm z => hp1 (z ▸ ap p hm))⟩
              cases bb with
              | true =>
                change if true = true then _ else _
                rw [if_pos rfl]
                intro hn
                obtain ⟨C', k1, k2⟩ := fin .non .non (by unfold Dat; rfl) h4 hn
                refine ⟨C', k1, ?_⟩
                have e1 : (((σ'.set i (some (V.ref a))).set j (some (V.ref p))).set j (some V.non)).set i none = (σ'.set j (some V.non)).set i none := by
                  rw [List.set_set, List.set_comm _ _ hp2, List.set_set]
                rw [e1]
                exact k2
              | false =>
                change if false = true then _ else _
                rw [if_neg (by simp)]
                intro hn
                obtain ⟨C', k1, k2⟩ := fin (.ref p) (.tup [.str s, dv]) (by
                  unfold Dat
                  exact ⟨p, _, rfl, .inl ⟨.inl upd_same, oset_same⟩, .cons (by unfold Dat; rfl) (.one du2)⟩) h4 hn
                refine ⟨C', k1, ?_⟩
                have e1 : ((σ'.set i (some (V.ref a))).set j (some (V.ref p))).set i none = (σ'.set j (some (V.ref p))).set i none := by
                  rw [List.set_comm _ _ hp2, List.set_set]
                rw [e1]
                exact k2
            · exact h3.elim
          · rw [if_neg hp] at h3; exact h3.elim
        · exact h3.elim
      · subst hb
        exact h2 _ _ _ _ _ S' ex
end
end
end Ev

set_option Elab.async false
set_option linter.all false
set_option maxRecDepth 100000
set_option maxHeartbeats 4000000
namespace Ev
open PySem PySem.Spec PyProof.Rows L2
/-- what a global name stands for -/
inductive GK where
  | blt | fn | cls | val
  deriving DecidableEq
/-- the static side of a def -/
structure SE where
  N : List Str
  sc : Scope
  gk : Str → Option GK
  pin : List Nat
  fc : Str → Bool
  fld : Str → Bool
def relS (sc scope : Scope) : Scope := { scope with names := scope.names.map fun (n, k) => if (k == .free && sc.kind == .function && sc.names.lookup n == some .cell) then (n, .cell) else (n, k) }
def SE.blk (E : SE) (scope : Scope) : SE := { E with sc := relS E.sc scope, fc := fun x => scope.names.lookup x == some .cell }
def ixOf : List Str → Str → Option Nat
  | [], _ => none
  | y :: r, x => if y = x then some 0 else (ixOf r x).map (· + 1)
theorem ixOf_get : ∀ {N : List Str} {x : Str} {i : Nat}, ixOf N x = some i → N[i]? = some x
  | [], _, _, h => by cases h
  | y :: r, x, i, h => by
    unfold ixOf at h
    by_cases e : y = x
    · rw [if_pos e] at h
      cases h
      rw [e]; rfl
    · rw [if_neg e] at h
      obtain ⟨j, hj, rfl⟩ := Option.map_eq_some_iff.mp h
      simpa using ixOf_get hj
def okName (x : Str) : Bool := !(x == ("__debug__" : Str)) && !(x == ("__classdict__" : Str)) && !(x == ("__name__" : Str))
theorem okName_db {x : Str} (h : okName x = true) : (x == ("__debug__" : Str)) = false ∧ (x == ("__classdict__" : Str)) = false ∧ x ≠ "__name__" := by
  unfold okName at h
  rw [Bool.and_eq_true, Bool.and_eq_true] at h
  obtain ⟨⟨h1, h2⟩, h3⟩ := h
  exact ⟨by simpa using h1, by simpa using h2, by simpa using h3⟩
def visK : Option NameKind → Bool
  | some .local => true
  | some .cell => true
  | some .free => true
  | _ => false
def SE.slot (E : SE) (x : Str) : Option Nat := if visK (E.sc.names.lookup x) = true ∧ okName x = true then ixOf E.N x else none
def SE.glob (E : SE) (x : Str) : Bool := decide (E.sc.names.lookup x = some .globalImplicit) && okName x
def SE.gl (E : SE) (x : Str) (k : GK) : Bool := E.glob x && decide (E.gk x = some k)
def notStar : Expr → Bool
  | .Starred _ _ => false
  | _ => true
theorem star_cons {e : Expr} {es : List Expr} {env : Env} (h : notStar e = true) : starEach (e :: es) env = (false, eval e env) :: starEach es env := by
  cases e <;> first | rfl | cases h
theorem star_plain {pos : Pos} {env : Env} : ∀ {es : List Expr}, es.all notStar = true → (backTo pos (starEach es env)).any (·.1) = false
  | [], _ => rfl
  | e :: es, h => by
    rw [List.all_cons, Bool.and_eq_true] at h
    rw [star_cons h.1]
    unfold backTo
    rw [List.map_cons, List.any_cons]
    exact star_plain (es := es) h.2
mutual
/-- whether a slot is told of -/
def hasV (i : Nat) : CE → Bool
  | .v j => decide (i = j)
  | .tup es => hasA i es
  | .lst es => hasA i es
  | .prim _ es => hasA i es
  | .mut _ j es => decide (i = j) || hasA i es
  | .call _ es => hasA i es
  | .callv _ es => hasA i es
  | .mk _ es => hasA i es
  | .meth j _ es => decide (i = j) || hasA i es
  | .and a b => hasV i a || hasV i b
  | .or a b => hasV i a || hasV i b
  | .not a => hasV i a
  | .callx e es => hasV i e || hasA i es
  | .spl j e => decide (i = j) || hasV i e
  | .ite c a b => hasV i c || (hasV i a || hasV i b)
  | _ => false
def hasA (i : Nat) : CA → Bool
  | .nil => false
  | .cons e r => hasV i e || hasA i r
  | .late j r => decide (i = j) || hasA i r
end
/-- a list ahead of what changes it -/
def consA (e : Expr) (c : CE) (r : CA) : CA := match e, c with
  | .Name x _, .v i => if (x == ("_law_pack_here" : Str)) && hasA i r then .late i r else .cons c r
  | _, _ => .cons c r
theorem consA_or (e : Expr) (c : CE) (r : CA) : consA e c r = .cons c r ∨ ∃ i, c = .v i ∧ consA e c r = .late i r := by
  unfold consA
  split
  · split
    · exact .inr ⟨_, rfl, rfl⟩
    · exact .inl rfl
  · exact .inl rfl
/-- arguments, from the left -/
def cAs (f : Expr → Option CE) : List Expr → Option CA
  | [] => some .nil
  | e :: es => if notStar e = true then ofO (f e) fun c => ofO (cAs f es) fun r => some (consA e c r) else none
theorem cAs_star {f : Expr → Option CE} : ∀ {es : List Expr} {c : CA}, cAs f es = some c → es.all notStar = true
  | [], _, _ => rfl
  | e :: es, c, h => by
    unfold cAs at h
    obtain ⟨h1, h⟩ := ifSome h
    obtain ⟨a, _, h⟩ := ofO_ok h
    obtain ⟨r, h2, _⟩ := ofO_ok h
    rw [List.all_cons, h1, cAs_star h2]
    rfl
def opB : Operator → Option P
  | .Add => some .add
  | .Sub => some .sub
  | .Mult => some .mul
  | .Mod => some .mod
  | .Pow => some .pow
  | .FloorDiv => some .fdiv
  | _ => none
def opC : CmpOp → Option P
  | .Eq => some .eq
  | .NotEq => some .ne
  | .Lt => some .lt
  | .LtE => some .le
  | .Gt => some .gt
  | .GtE => some .ge
  | .In => some .inn
  | .NotIn => some .notin
  | .Is => some .isb
  | .IsNot => some .isnb
/-- calls of built-in names -/
def callPs : List (Str × P × String × Bool) := [("len", .len, "len", false), ("abs", .abs, "abs", false), ("all", .all, "all", false), ("any", .any, "any", false), ("sum", .sum, "sum", false), ("max", .max2, "max", false), ("min", .min2, "min", false), ("divmod", .divmod, "divmod", false),
  ("int", .int, "int", true), ("str", .str, "str", true), ("tuple", .tuple, "tuple", true), ("list", .list, "list", true)]
def tyNames : List (Str × String) := [("int", "int"), ("bool", "bool"), ("str", "str"), ("tuple", "tuple"), ("list", "list"), ("dict", "dict")]
/-- x(es) of a built-in name -/
def isNone : Expr → Bool
  | .Constant .none _ _ => true
  | _ => false
def cBool (f : Expr → Option CE) (op : BoolOp) : List Expr → Option CE
  | [] => none
  | [a] => f a
  | a :: r => ofO (f a) fun ca => ofO (cBool f op r) fun cb => some (match op with
    | .And => .and ca cb
    | .Or => .or ca cb)
/-- what is walked -/
def cI (f : Expr → Option CE) (E : SE) (tup : Bool) (e : Expr) : Option CI := match e with
  | .Call (.Name x _) [a] [] _ => if (x = "range" ∧ E.gl x .blt = true) ∧ notStar a = true then ofO (f a) fun c => some (.range (.cons c .nil))
    else if (x = "enumerate" ∧ E.gl x .blt = true) ∧ notStar a = true ∧ tup = true then ofO (f a) fun c => some (.enum c)
    else ofO (f e) fun c => some (.seq c)
  | .Call (.Name x _) [a, b] [] _ => if (x = "range" ∧ E.gl x .blt = true) ∧ notStar a = true ∧ notStar b = true then ofO (f a) fun c => ofO (f b) fun c2 => some (.range (.cons c (.cons c2 .nil)))
    else if (x = "zip" ∧ E.gl x .blt = true) ∧ notStar a = true ∧ notStar b = true ∧ tup = true then ofO (f a) fun c => ofO (f b) fun c2 => some (.zip c c2)
    else ofO (f e) fun c => some (.seq c)
  | .Call (.Name x _) [a, b, d] [] _ => if (x = "range" ∧ E.gl x .blt = true) ∧ notStar a = true ∧ notStar b = true ∧ notStar d = true then ofO (f a) fun c => ofO (f b) fun c2 => ofO (f d) fun c3 => some (.range (.cons c (.cons c2 (.cons c3 .nil))))
    else ofO (f e) fun c => some (.seq c)
  | _ => ofO (f e) fun c => some (.seq c)
def notSet : Expr → Bool
  | .Set _ _ _ => false
  | _ => true
theorem notSet_folded {e : Expr} {env : Env} (h : notSet e = true) (x : Value) : foldedSetIterable e env x = pure x := by
  cases e <;> first | rfl | cases h
/-- targets: a name, a tuple of names -/
def cTgN (E : SE) : Expr → Option Nat
  | .Name x _ => if E.sc.names.lookup x = some .local ∨ (E.sc.names.lookup x = some .cell ∧ E.fc x = true) then ixOf E.N x else none
  | _ => none
def cTgs (E : SE) : List Expr → Option (List Nat)
  | [] => some []
  | e :: es => ofO (cTgN E e) fun i => ofO (cTgs E es) fun r => some (i :: r)
def cTg (E : SE) (e : Expr) : Option (List Nat × Bool) := match e with
  | .Tuple es _ _ => ofO (cTgs E es) fun is => some (is, true)
  | _ => ofO (cTgN E e) fun i => some ([i], false)
def notSuper : Expr → Bool
  | .Call (.Name _ _) [] [] _ => false
  | _ => true
theorem base_of {o : Expr} {a : Str} {env : Env} {whole : Sem Value} (h : notSuper o = true) : attributeBase o a env whole = whole := by
  unfold attributeBase
  split
  · cases h
  · rfl
/-- methods of lists that change them -/
def mutPs : List (Str × MP) := [("append", .append), ("pop", .popAt), ("extend", .extend), ("insert", .insert)]
/-- a display's constant -/
def kOf : Expr → Option D
  | .Constant .none _ _ => some .non
  | .Constant (.bool b) _ _ => some (.bl b)
  | .Constant (.int i) _ _ => some (.int i)
  | .Constant (.str x) _ _ => some (.str x)
  | _ => none
def cCall (f : Expr → Option CE) (E : SE) (fe : Expr) (args : List Expr) (pos : Pos) : Option CE := match fe with
  | .Name x _ =>
    if x = "isinstance" ∧ E.gl x .blt = true then (match args with
      | [a, .Name t _] => if notStar a = true then (match tyNames.lookup t with
        | some T => if E.gl t .blt = true then ofO (f a) fun c => some (.prim (.isi T) (.cons c .nil)) else none
        | none => if t = "ValueError" ∧ E.gl t .blt = true then ofO (f a) fun c => some (.prim (.isc t) (.cons c .nil))
          else if E.gl t .cls = true then ofO (f a) fun c => some (.prim (.isc t) (.cons c .nil)) else none) else none
      | _ => none)
    else (match callPs.lookup x with
      | some (p, _) => if E.gl x .blt = true ∧ args ≠ [] then ofO (cAs f args) fun c => some (.prim p c) else none
      | none => if E.gl x .fn = true then ofO (cAs f args) fun c => some (.call x c)
        else ofO (E.slot x) fun i => if args ≠ [] then ofO (cAs f args) fun c => some (.callv i c) else none)
  | .Attribute o m apos => if notSuper o = true ∧ (apos.endLine == pos.line) = true ∧ args ≠ [] ∧ args.length < 10 then (match o with
      | .Name y _ => (match E.slot y with
        | some i => (match mutPs.lookup m with
          | some p => ofO (cAs f args) fun c => some (.mut p i c)
          | none => if m = "index" then (match args with
              | [a] => ofO (kOf a) fun d => some (.prim .index (.cons (.v i) (.cons (.k d) .nil)))
              | _ => none)
            else if m = "split" then (match args with
              | [a] => (match kOf a with
                | some d => some (.prim .split (.cons (.v i) (.cons (.k d) .nil)))
                | none => if notStar a = true then ofO (f a) fun c => some (.spl i c) else none)
              | _ => none)
            else if m = "partition" then (match args with
              | [a] => ofO (kOf a) fun d => some (.prim .part (.cons (.v i) (.cons (.k d) .nil)))
              | _ => none)
            else none)
        | none => none)
      | .Constant (.str a) _ _ => if m = "join" then (match args with
          | [e] => if notStar e = true then ofO (f e) fun c => some (.prim .join (.cons (.k (.str a)) (.cons c .nil))) else none
          | _ => none)
        else none
      | _ => none) else none
  | .Subscript l ix p => if args ≠ [] then ofO (f (.Subscript l ix p)) fun cc => ofO (cAs f args) fun c => some (.callx cc c) else none
  | _ => none
def cOwn (E : SE) (scope : Scope) : List (Str × Nat) := scope.names.filterMap fun p => match p.2 with
  | .local => (ixOf E.N p.1).map fun i => (p.1, i)
  | .cell => (ixOf E.N p.1).map fun i => (p.1, i)
  | _ => none
/-- one step -/
def stepE (rec : SE → Expr → Option CE) (E : SE) (e : Expr) : Option CE := match e with
  | .Constant _ _ _ => (kOf e).map .k
  | .Name x _ => (match E.slot x with
    | some i => some (.v i)
    | none => if E.glob x = true then some (.g x) else none)
  | .Tuple es _ _ => ofO (cAs (rec E) es) fun c => some (.tup c)
  | .List es _ => ofO (cAs (rec E) es) fun c => some (.lst c)
  | .Dict [] [] _ => some (.k .emp)
  | .BinOp a op b _ => ofO (opB op) fun p => ofO (rec E a) fun ca => ofO (rec E b) fun cb => some (.prim p (.cons ca (.cons cb .nil)))
  | .UnaryOp .USub a _ => ofO (rec E a) fun ca => some (.prim .neg (.cons ca .nil))
  | .UnaryOp .Not a _ => ofO (rec E a) fun ca => some (.not ca)
  | .BoolOp op (a :: b :: r) _ => cBool (rec E) op (a :: b :: r)
  | .Compare a [.Is] [.Constant .none _ _] _ => ofO (rec E a) fun ca => some (.prim .isN (.cons ca .nil))
  | .Compare a [.IsNot] [.Constant .none _ _] _ => ofO (rec E a) fun ca => some (.prim .isnotN (.cons ca .nil))
  | .Compare a [op] [b] _ => if behindInMarks op b = false then ofO (opC op) fun p => ofO (rec E a) fun ca => ofO (rec E b) fun cb => some (.prim p (.cons ca (.cons cb .nil))) else none
  | .Compare a [op, op'] [b, c] _ => if lastMarks [op, op'] [b, c] = false then ofO (opC op) fun p => ofO (opC op') fun q => ofO (rec E a) fun ca => ofO (rec E b) fun cb => ofO (rec E c) fun cc => some (.chain p q ca cb cc) else none
  | .Compare a [op, op', op2] [b, c, d] _ => if lastMarks [op, op', op2] [b, c, d] = false then ofO (opC op) fun p => ofO (opC op') fun q => ofO (opC op2) fun r => ofO (rec E a) fun ca => ofO (rec E b) fun cb => ofO (rec E c) fun cc => ofO (rec E d) fun cd => some (.chain3 p q r ca cb cc cd) else none
  | .IfExp c a b _ => ofO (rec E c) fun cc => ofO (rec E a) fun ca => ofO (rec E b) fun cb => some (.ite cc ca cb)
  | .Subscript a (.Slice (some b) none none _) _ => ofO (rec E a) fun ca => ofO (rec E b) fun cb => some (.prim .sliceFrom (.cons ca (.cons cb .nil)))
  | .Subscript a (.Slice none (some b) none _) _ => ofO (rec E a) fun ca => ofO (rec E b) fun cb => some (.prim .sliceTo (.cons ca (.cons cb .nil)))
  | .Subscript a (.Slice (some b) (some c) none _) _ => ofO (rec E a) fun ca => ofO (rec E b) fun cb => ofO (rec E c) fun cc => some (.sl ca cb cc)
  | .Subscript a b _ => (match b with
    | .Slice _ _ _ _ => none
    | _ => ofO (rec E a) fun ca => ofO (rec E b) fun cb => some (.prim .item (.cons ca (.cons cb .nil))))
  | .Attribute (.Name x _) n _ => ofO (E.slot x) fun i => if E.fld n = true then some (.fld i n) else none
  | .ListComp elt [⟨tg, it, ifs, 0⟩] scope _ => ofO (cTg (E.blk scope) tg) fun t => ofO (cI (rec E) E t.2 it) fun ci =>
      if notSet it = true ∧ blkC E.N E.sc scope (cOwn E scope) = true ∧ (((cOwn E scope).map (·.2)).all fun i => t.1.contains i) = true ∧ (t.1.all fun i => ((cOwn E scope).map (·.2)).contains i) = true ∧ (t.1.all fun i => !E.pin.contains i) = true then (match ifs with
        | [] => ofO (rec (E.blk scope) elt) fun ce => some (.comp ci t.1 t.2 (.k (.bl true)) ce)
        | [c] => ofO (rec (E.blk scope) c) fun cc => ofO (rec (E.blk scope) elt) fun ce => some (.comp ci t.1 t.2 cc ce)
        | _ => none) else none
  | .Call fe args [] pos => cCall (rec E) E fe args pos
  | _ => none
def cE : Nat → SE → Expr → Option CE
  | 0 => fun _ _ => none
  | n + 1 => stepE (cE n)
end Ev

set_option Elab.async false
set_option linter.all false
set_option maxRecDepth 100000
set_option maxHeartbeats 4000000
namespace Ev
open PySem PySem.Spec PyProof.Rows L2
/-- what is known where an expression stands -/
structure EX (X : Cx) (G : Gm) (F : Fe) (E : SE) : Prop where
  N : X.N = E.N
  nd : X.N.Nodup
  sc : X.env.scope = E.sc
  K : X.K = G.K
  calm : X.calm = true
  un : X.A.units + 65 < cLine
  blt : ∀ x, E.gk x = some .blt → X.mg x = none
  cls : ∀ x, E.gk x = some .cls → ∃ C, X.mg x = some (.ref C) ∧ IscOk X.K G x (.ref C)
  fns : FnsOk X G F
  gv : GvOk X G F
  exc : ExcOk X.K G
  iscV : IscOk X.K G "ValueError" (.type "ValueError")
  fld : ∀ n, E.fld n = true → FldOk X.K G n
  fc : ∀ x, E.fc x = true → X.fn x = true
section
variable {X : Cx} {G : Gm} {F : Fe} {E : SE}
theorem EX.slot (h : EX X G F E) {x : Str} {i : Nat} (e : E.slot x = some i) : X.N[i]? = some x ∧ Vis X.env.scope x ∧ (x == ("__debug__" : Str)) = false ∧ (x == ("__classdict__" : Str)) = false := by
  unfold SE.slot at e
  obtain ⟨⟨h1, h2⟩, e⟩ := ifSome e
  obtain ⟨h3, h4, _⟩ := okName_db h2
  refine ⟨by rw [h.N]; exact ixOf_get e, ?_, h3, h4⟩
  rw [h.sc]
  cases q : E.sc.names.lookup x with
  | none => rw [q] at h1; cases h1
  | some k =>
    rw [q] at h1
    cases k with
    | «local» => exact .inl q
    | cell => exact .inr (.inl q)
    | free => exact .inr (.inr q)
    | globalExplicit => cases h1
    | globalImplicit => cases h1
theorem EX.glob (h : EX X G F E) {x : Str} (e : E.glob x = true) : Gl X x ∧ (x == ("__debug__" : Str)) = false ∧ x ≠ "__name__" := by
  unfold SE.glob at e
  obtain ⟨h1, h2⟩ := Bool.and_eq_true_iff.mp e
  obtain ⟨h3, _, h5⟩ := okName_db h2
  refine ⟨?_, h3, h5⟩
  show X.env.scope.names.lookup x = _
  rw [h.sc]
  exact of_decide_eq_true h1
theorem EX.gl (h : EX X G F E) {x : Str} {k : GK} (e : E.gl x k = true) : (Gl X x ∧ (x == ("__debug__" : Str)) = false ∧ x ≠ "__name__") ∧ E.gk x = some k := by
  unfold SE.gl at e
  obtain ⟨h1, h2⟩ := Bool.and_eq_true_iff.mp e
  exact ⟨h.glob h1, of_decide_eq_true h2⟩
/-- a compiled expression is right -/
def Good (G : Gm) (F : Fe) (E : SE) (e : Expr) (c : CE) : Prop := ∀ (X : Cx) (Wx : WX) (A : Amb), EX X G F E → APin A E.pin → Takes X Wx → PE X e (TEv G A Wx F c) ∧ PT X e (TTs G A Wx F c)
theorem arg_of {c : CE} (h : ∀ i, c ≠ .v i) (g : Sg) (r : Option (ER W)) : argOf c g r = noTie r := by
  cases c <;> first | rfl | exact absurd rfl (h _)
/-- only a name is a slot -/
def SlotOk (X : Cx) (e : Expr) (c : CE) : Prop := ∀ i, c = .v i → ∃ x p, e = .Name x p ∧ X.N[i]? = some x ∧ Vis X.env.scope x ∧ (x == ("__debug__" : Str)) = false ∧ (x == ("__classdict__" : Str)) = false
theorem pe_ar {A : Amb} {Wx : WX} {e : Expr} {c : CE} (hs : SlotOk X e c) (h : PE X e (TEv G A Wx F c)) : PE X e (TAr G A Wx F c) := by
  by_cases q : ∃ i, c = .v i
  · obtain ⟨i, rfl⟩ := q
    obtain ⟨x, p, rfl, h1, h2, h3, h4⟩ := hs i rfl
    exact peVa h1 h2 h3 h4
  · exact peArg (arg_of fun i z => q ⟨i, z⟩) h
/-- right, and fit to be handed on -/
def Fit (G : Gm) (F : Fe) (E : SE) (e : Expr) (c : CE) : Prop := Good G F E e c ∧ ∀ X, EX X G F E → SlotOk X e c
variable {A : Amb} {Wx : WX}
theorem Fit.ar {e : Expr} {c : CE} (h : Fit G F E e c) (x : EX X G F E) (ap : APin A E.pin) (tk : Takes X Wx) : PE X e (TAr G A Wx F c) := pe_ar (h.2 X x) (h.1 X Wx A x ap tk).1
theorem Fit.ev {e : Expr} {c : CE} (h : Fit G F E e c) (x : EX X G F E) (ap : APin A E.pin) (tk : Takes X Wx) : PE X e (TEv G A Wx F c) := (h.1 X Wx A x ap tk).1
theorem Fit.ts {e : Expr} {c : CE} (h : Fit G F E e c) (x : EX X G F E) (ap : APin A E.pin) (tk : Takes X Wx) : PT X e (TTs G A Wx F c) := (h.1 X Wx A x ap tk).2
/-- an expression that is no test by itself -/
theorem fit_of {e : Expr} {c : CE} (hv : ∀ i, c ≠ .v i) (he : ∀ env whole, isTrue e env whole = (do let v ← whole; standAt e.pos; holding [v] (truthy v))) (h : ∀ (X : Cx) (Wx : WX) (A : Amb), EX X G F E → APin A E.pin → Takes X Wx → PE X e (TEv G A Wx F c)) : Fit G F E e c :=
  ⟨fun X Wx A x ap tk => ⟨h X Wx A x ap tk, ptTru x.K (h X Wx A x ap tk) (he _)⟩, fun X _ i z => absurd z (hv i)⟩
theorem fit2 {e : Expr} {c : CE} (hv : ∀ i, c ≠ .v i) (h : ∀ (X : Cx) (Wx : WX) (A : Amb), EX X G F E → APin A E.pin → Takes X Wx → PE X e (TEv G A Wx F c) ∧ PT X e (TTs G A Wx F c)) : Fit G F E e c := ⟨h, fun X _ i z => absurd z (hv i)⟩
/-- what the rest of the compiler gives -/
def RecOk (G : Gm) (F : Fe) (rec : SE → Expr → Option CE) : Prop := ∀ E e c, rec E e = some c → Fit G F E e c
theorem cAs_ok {f : Expr → Option CE} (hf : ∀ e c, f e = some c → Fit G F E e c) (x : EX X G F E) (ap : APin A E.pin) (tk : Takes X Wx) : ∀ {es : List Expr} {c : CA}, cAs f es = some c → PA X es (TAv G A Wx F c)
  | [], c, h => by
    cases h
    exact paNil
  | e :: es, c, h => by
    unfold cAs at h
    obtain ⟨h1, h⟩ := ifSome h
    obtain ⟨a, h2, h⟩ := ofO_ok h
    obtain ⟨r, h3, h⟩ := ofO_ok h
    cases h
    rcases consA_or e a r with q | ⟨i, rfl, q⟩
    · rw [q]
      exact paCons ((hf e a h2).ar x ap tk) (cAs_ok hf x ap tk h3) (star_cons h1)
    · rw [q]
      obtain ⟨y, p, rfl, s1, s2, s3, s4⟩ := (hf e _ h2).2 X x i rfl
      exact paLate (pe_var s1 s2 s3 s4) (cAs_ok hf x ap tk h3) (star_cons h1)
theorem opB_ok (x : EX X G F E) {op : Operator} {p : P} (h : opB op = some p) : OpR X (binaryOp op) (r2 G p) := by
  cases op <;> cases h
  · exact opAdd x.K
  · exact opSub
  · exact opMul x.K
  · exact opMod
  · exact opPow
  · exact opFdiv
theorem opC_ok (x : EX X G F E) {op : CmpOp} {p : P} (h : opC op = some p) : OpR X (compareOp op) (r2 G p) ∧ Cmp p := by
  have hu : X.A.units + 64 < cLine := Nat.lt_of_succ_lt x.un
  cases op <;> cases h
  · exact ⟨opEq x.K hu, cmpEq⟩
  · exact ⟨opNe x.K hu, cmpNe⟩
  · exact ⟨opLt, cmpLt⟩
  · exact ⟨opLe, cmpLe⟩
  · exact ⟨opGt, cmpGt⟩
  · exact ⟨opGe, cmpGe⟩
  · exact ⟨opIsb, cmpIsb⟩
  · exact ⟨opIsnb, cmpIsnb⟩
  · exact ⟨opIn x.K x.un, cmpIn⟩
  · exact ⟨opNotIn x.K x.un, cmpNotIn⟩
theorem kOf_ok {e : Expr} {d : D} (h : kOf e = some d) : ∃ v, PE X e (tC v) ∧ (∀ ω H, Dat G ω H d v) ∧ notStar e = true ∧ (∀ env whole, isTrue e env whole = (do let v ← whole; standAt e.pos; holding [v] (truthy v))) := by
  unfold kOf at h
  split at h
  · cases h; exact ⟨.non, pe_non, fun _ _ => by unfold Dat; rfl, rfl, fun _ _ => rfl⟩
  · cases h; exact ⟨.bl _, pe_bl, fun _ _ => by unfold Dat; rfl, rfl, fun _ _ => rfl⟩
  · cases h; exact ⟨.int _, pe_int, fun _ _ => by unfold Dat; rfl, rfl, fun _ _ => rfl⟩
  · cases h; exact ⟨.str _, pe_str, fun _ _ => by unfold Dat; rfl, rfl, fun _ _ => rfl⟩
  · cases h
theorem pw_of {a : Expr} {op : BoolOp} {pos : Pos} {c : CE} (h : PT X a (TTs G A Wx F c)) : PW X (.BoolOp op [a] pos) (TTs G A Wx F c) := by
  cases op with
  | And => exact pw_and1 h
  | Or => exact pw_or1 h
theorem cBool_ok {f : Expr → Option CE} (hf : ∀ e c, f e = some c → Fit G F E e c) (x : EX X G F E) (ap : APin A E.pin) (tk : Takes X Wx) {op : BoolOp} {pos : Pos} : ∀ {es : List Expr} {c : CE}, cBool f op es = some c → PE X (.BoolOp op es pos) (TEv G A Wx F c) ∧ PW X (.BoolOp op es pos) (TTs G A Wx F c)
  | [], c, h => by cases h
  | [a], c, h => by
    have q := hf a c h
    exact ⟨pe_one (q.ev x ap tk), pw_of (q.ts x ap tk)⟩
  | a :: b :: r, c, h => by
    unfold cBool at h
    obtain ⟨ca, h1, h⟩ := ofO_ok h
    obtain ⟨cb, h2, h⟩ := ofO_ok h
    obtain ⟨q1, q2⟩ := cBool_ok hf x ap tk h2
    have q := hf a ca h1
    cases op with
    | And => cases h; exact ⟨peAnd x.K (q.ev x ap tk) q1, pwAnd (q.ts x ap tk) q2⟩
    | Or => cases h; exact ⟨peOr x.K (q.ev x ap tk) q1, pwOr (q.ts x ap tk) q2⟩
theorem cBool_nv {f : Expr → Option CE} {op : BoolOp} {a b : Expr} {r : List Expr} {c : CE} (h : cBool f op (a :: b :: r) = some c) (i : Nat) : c ≠ .v i := by
  unfold cBool at h
  obtain ⟨ca, h1, h⟩ := ofO_ok h
  obtain ⟨cb, h2, h⟩ := ofO_ok h
  cases op <;> cases h <;> nofun
end
end Ev

set_option Elab.async false
set_option linter.all false
set_option maxRecDepth 100000
set_option maxHeartbeats 4000000
namespace Ev
open PySem PySem.Spec PyProof.Rows L2
theorem lookup_mem {α β : Type} [BEq α] [LawfulBEq α] {x : α} {b : β} : ∀ {l : List (α × β)}, l.lookup x = some b → (x, b) ∈ l
  | [], h => by cases h
  | (a, c) :: l, h => by
    rw [List.lookup_cons] at h
    cases q : x == a with
    | true =>
      rw [q] at h
      cases h
      rw [eq_of_beq q]
      exact List.mem_cons_self
    | false =>
      rw [q] at h
      exact List.mem_cons_of_mem _ (lookup_mem h)
section
variable {X : Cx} {G : Gm} {F : Fe} {E : SE} {A : Amb} {Wx : WX}
theorem pt_if {c a b : Expr} {pos : Pos} {tc ta tb : TT} (hc : PT X c tc) (ha : PT X a ta) (hb : PT X b tb) : PT X (.IfExp c a b pos) (fun σ H Q => tc σ H fun k H1 => if k = true then ta σ H1 Q else tb σ H1 Q) := by
  refine ⟨fun pins s σ H Q I h => ?_⟩
  show wpAny _ _ (do if ← isTrue c X.env (eval c X.env) then isTrue a X.env (eval a X.env) else isTrue b X.env (eval b X.env)) _ _ _
  refine wpAny_bind (thn (hc.run pins s σ H _ I h) fun k s1 ⟨H1, I1, q1⟩ => ?_)
  cases k with
  | true => exact ha.run pins s1 σ H1 _ I1 q1
  | false => exact hb.run pins s1 σ H1 _ I1 q1
theorem evT_ite {cc ca cb : CE} {g : Sg} : evT F (.ite cc ca cb) g = bR (evT F cc g) fun t g1 => match t with
    | true => evT F ca g1
    | false => evT F cb g1 := by
  unfold evT
  rw [evE]
  cases evE F cc g with
  | none => rfl
  | some r =>
    cases r with
    | exc x g1 => rfl
    | ok w g1 =>
      show bR (testW w g1 _) _ = bR (ofO (wtruth w) _) _
      unfold testW
      cases wtruth w with
      | none => rfl
      | some t => cases t <;> rfl
theorem ptIf {c a b : Expr} {pos : Pos} {cc ca cb : CE} (hc : PT X c (TTs G A Wx F cc)) (ha : PT X a (TTs G A Wx F ca)) (hb : PT X b (TTs G A Wx F cb)) : PT X (.IfExp c a b pos) (TTs G A Wx F (.ite cc ca cb)) :=
  ptImp (pt_if hc ha hb) fun σ H Q ⟨g, τ, ω, S, h⟩ => by
    rw [evT_ite] at h
    refine ⟨g, τ, ω, S, h.bind.imp (fun t g1 h H' ω' S' => ?_) fun _ _ h => h⟩
    cases t with
    | true => exact ⟨g1, τ, ω', S', h⟩
    | false => exact ⟨g1, τ, ω', S', h⟩
/-- a call of a built-in name -/
theorem callPs_ok (x : EX X G F E) {nm : Str} {p : P} {id : String} {ty : Bool} {e : Expr} {es : List Expr} {c : CA} {q pos : Pos} (h : callPs.lookup nm = some (p, id, ty)) (hg : E.gl nm .blt = true) (ha : PA X (e :: es) (TAv G A Wx F c)) (hs : (e :: es).all notStar = true) :
    PE X (.Call (.Name nm q) (e :: es) [] pos) (TEv G A Wx F (.prim p c)) := by
  obtain ⟨⟨g1, g2, g3⟩, g4⟩ := x.gl hg
  have hm := x.blt nm g4
  have h1 : notStar e = true := by rw [List.all_cons, Bool.and_eq_true] at hs; exact hs.1
  have h2 : es.all notStar = true := by rw [List.all_cons, Bool.and_eq_true] at hs; exact hs.2
  have hh := lookup_mem h
  unfold callPs at hh
  simp only [List.mem_cons, Prod.mk.injEq, List.not_mem_nil, or_false] at hh
  rcases hh with ⟨rfl, rfl, rfl, rfl⟩ | ⟨rfl, rfl, rfl, rfl⟩ | ⟨rfl, rfl, rfl, rfl⟩ | ⟨rfl, rfl, rfl, rfl⟩ | ⟨rfl, rfl, rfl, rfl⟩ | ⟨rfl, rfl, rfl, rfl⟩ | ⟨rfl, rfl, rfl, rfl⟩ | ⟨rfl, rfl, rfl, rfl⟩ | ⟨rfl, rfl, rfl, rfl⟩ | ⟨rfl, rfl, rfl, rfl⟩ | ⟨rfl, rfl, rfl, rfl⟩ | ⟨rfl, rfl, rfl, rfl⟩
  · exact peCallB (clLen x.K) g1 hm (by decide +kernel) ha g3 g2 (star_cons h1) (star_plain h2)
  · exact peCallB clAbs g1 hm (by decide +kernel) ha g3 g2 (star_cons h1) (star_plain h2)
  · exact peCallB (clAll x.calm) g1 hm (by decide +kernel) ha g3 g2 (star_cons h1) (star_plain h2)
  · exact peCallB (clAny x.calm) g1 hm (by decide +kernel) ha g3 g2 (star_cons h1) (star_plain h2)
  · exact peCallB (clSum x.calm) g1 hm (by decide +kernel) ha g3 g2 (star_cons h1) (star_plain h2)
  · exact peCallB (clMax x.calm) g1 hm (by decide +kernel) ha g3 g2 (star_cons h1) (star_plain h2)
  · exact peCallB (clMin x.calm) g1 hm (by decide +kernel) ha g3 g2 (star_cons h1) (star_plain h2)
  · exact peCallB clDm g1 hm (by decide +kernel) ha g3 g2 (star_cons h1) (star_plain h2)
  · exact peCallT clInt g1 hm (by decide +kernel) ha g3 g2 (star_cons h1) (star_plain h2)
  · exact peCallT clStr g1 hm (by decide +kernel) ha g3 g2 (star_cons h1) (star_plain h2)
  · exact peCallT (clTuple x.K) g1 hm (by decide +kernel) ha g3 g2 (star_cons h1) (star_plain h2)
  · exact peCallT (clList x.K) g1 hm (by decide +kernel) ha g3 g2 (star_cons h1) (star_plain h2)
/-- a call of a def -/
theorem peFn_none {nm : Str} {es : List Expr} {c : CA} {q pos : Pos} (e : F.fn nm = none) : PE X (.Call (.Name nm q) es [] pos) (TEv G A Wx F (.call nm c)) := by
  refine ⟨fun pins s σ H Q I h => ?_⟩
  obtain ⟨g, τ, ω, S, h⟩ := h
  have h := noTie_out h
  simp only [evE, e, ofO] at h
  exact h.elim
theorem peFn (x : EX X G F E) (tk : Takes X Wx) {nm : Str} {e1 : Expr} {es : List Expr} {c : CA} {q pos : Pos} (hg : E.gl nm .fn = true) (ha : PA X (e1 :: es) (TAv G A Wx F c)) (hs : (e1 :: es).all notStar = true) : PE X (.Call (.Name nm q) (e1 :: es) [] pos) (TEv G A Wx F (.call nm c)) := by
  obtain ⟨⟨g1, g2, g3⟩, g4⟩ := x.gl hg
  cases e : F.fn nm with
  | none => exact peFn_none e
  | some sem =>
    obtain ⟨a, h1, h2, h3⟩ := x.fns nm sem e
    have q1 : notStar e1 = true := by rw [List.all_cons, Bool.and_eq_true] at hs; exact hs.1
    have q2 : es.all notStar = true := by rw [List.all_cons, Bool.and_eq_true] at hs; exact hs.2
    exact peCall e h3 h1 g1 tk ha g2 (star_cons q1) (star_plain q2)
theorem peFn0 (x : EX X G F E) (tk : Takes X Wx) {nm : Str} {q pos : Pos} (hg : E.gl nm .fn = true) : PE X (.Call (.Name nm q) [] [] pos) (TEv G A Wx F (.call nm .nil)) := by
  obtain ⟨⟨g1, g2, g3⟩, g4⟩ := x.gl hg
  cases e : F.fn nm with
  | none => exact peFn_none e
  | some sem =>
    obtain ⟨a, h1, h2, h3⟩ := x.fns nm sem e
    exact peCall0 e h3 h1 g1 tk g2
theorem few_of {e : Expr} {es : List Expr} {env : Env} {pos : Pos} (hs : (e :: es).all notStar = true) (hl : (e :: es).length < 10) : ((backTo pos (starEach (e :: es) env)).all (fun x => !x.1) && (backToKw pos (keywordEach [] env)).all (fun x => x.1.isSome)
      && decide ((e :: es).length + ([] : List Keyword).length + (if ([] : List Keyword).isEmpty then 0 else 1) < 30)) = true := by
  have h1 := star_plain (pos := pos) (env := env) hs
  rw [Bool.and_eq_true, Bool.and_eq_true]
  refine ⟨⟨?_, rfl⟩, ?_⟩
  · rw [List.all_eq_true]
    intro y hy
    rw [List.any_eq_false] at h1
    have := h1 y hy
    simpa using this
  · have h2 : (if ([] : List Keyword).isEmpty then 0 else 1) = 0 := rfl
    rw [h2]
    exact decide_eq_true (by simp only [List.length_cons, List.length_nil] at hl ⊢; omega)
theorem mutPs_ok (x : EX X G F E) {nm y : Str} {p : MP} {i : Nat} {e1 : Expr} {es : List Expr} {c : CA} {q apos pos : Pos} (h : mutPs.lookup nm = some p) (hy : E.slot y = some i) (ha : PA X (e1 :: es) (TAv G A Wx F c)) (hs : (e1 :: es).all notStar = true)
    (hline : (apos.endLine == pos.line) = true) (hlen : (e1 :: es).length < 10) : PE X (.Call (.Attribute (.Name y q) nm apos) (e1 :: es) [] pos) (TEv G A Wx F (.mut p i c)) := by
  obtain ⟨h1, h2, h3, h4⟩ := x.slot hy
  have q1 : notStar e1 = true := by rw [List.all_cons, Bool.and_eq_true] at hs; exact hs.1
  have q2 : es.all notStar = true := by rw [List.all_cons, Bool.and_eq_true] at hs; exact hs.2
  have ho : PE X (.Name y q) (TAr G A Wx F (.v i)) := peVa h1 h2 h3 h4
  have hh := lookup_mem h
  unfold mutPs at hh
  simp only [List.mem_cons, Prod.mk.injEq, List.not_mem_nil, or_false] at hh
  rcases hh with ⟨rfl, rfl⟩ | ⟨rfl, rfl⟩ | ⟨rfl, rfl⟩ | ⟨rfl, rfl⟩
  · exact peMut (name := "") PySem.slot_list_append PySem.type_list_append mt_append (fun _ _ _ _ => rAppend_of) ho ha (base_of rfl) (few_of hs hlen) hline (star_cons q1) (star_plain q2)
  · exact peMut (name := "") PySem.F.slot_list_pop PySem.F.type_list_pop mt_popAt (fun _ _ _ _ => rPopAt_of) ho ha (base_of rfl) (few_of hs hlen) hline (star_cons q1) (star_plain q2)
  · exact peMut (name := "") PySem.F.slot_list_extend PySem.F.type_list_extend mt_extend (fun _ _ _ _ => rExtend_of) ho ha (base_of rfl) (few_of hs hlen) hline (star_cons q1) (star_plain q2)
  · exact peMut (name := "") PySem.F.slot_list_insert PySem.F.type_list_insert mt_insert (fun _ _ _ _ => rInsert_of) ho ha (base_of rfl) (few_of hs hlen) hline (star_cons q1) (star_plain q2)
theorem isi_cases {t : Str} {T : String} (h : tyNames.lookup t = some T) : bootBuiltins t = some (.type T) := by
  have hh := lookup_mem h
  unfold tyNames at hh
  simp only [List.mem_cons, Prod.mk.injEq, List.not_mem_nil, or_false] at hh
  rcases hh with ⟨rfl, rfl⟩ | ⟨rfl, rfl⟩ | ⟨rfl, rfl⟩ | ⟨rfl, rfl⟩ | ⟨rfl, rfl⟩ | ⟨rfl, rfl⟩ <;> decide +kernel
end
end Ev

set_option Elab.async false
set_option linter.all false
set_option maxRecDepth 100000
set_option maxHeartbeats 4000000
namespace Ev
open PySem PySem.Spec PyProof.Rows L2
section
variable {X : Cx} {G : Gm} {F : Fe} {E : SE} {A : Amb} {Wx : WX}
theorem cCall_ok {f : Expr → Option CE} (hf : ∀ e c, f e = some c → Fit G F E e c) {fe : Expr} {args : List Expr} {pos : Pos} {c : CE} (h : cCall f E fe args pos = some c) : (∀ i, c ≠ .v i) ∧ ∀ (X : Cx) (Wx : WX) (A : Amb), EX X G F E → APin A E.pin → Takes X Wx → PE X (.Call fe args [] pos) (TEv G A Wx F c) := by
  unfold cCall at h
  split at h
  · rename_i nm np
    by_cases h0 : nm = "isinstance" ∧ E.gl nm .blt = true
    · rw [if_pos h0] at h
      obtain ⟨rfl, hg⟩ := h0
      split at h
      · rename_i a t tp
        obtain ⟨hn, h⟩ := ifSome h
        have st : ∀ env, starEach [a, .Name t tp] env = (false, eval a env) :: starEach [.Name t tp] env := fun env => star_cons hn
        split at h
        · rename_i T hT
          obtain ⟨ht, h⟩ := ifSome h
          obtain ⟨ca, h1, h⟩ := ofO_ok h
          cases h
          refine ⟨nofun, fun X Wx A x ap tk => ?_⟩
          obtain ⟨⟨g1, g2, g3⟩, g4⟩ := x.gl hg
          obtain ⟨⟨t1, t2, t3⟩, t4⟩ := x.gl ht
          exact peIsi (x := "") x.K g1 (x.blt _ g4) t1 (x.blt _ t4) (isi_cases hT) t3 t2 ((hf a ca h1).ar x ap tk) (st _) rfl rfl
        · by_cases hv : t = "ValueError" ∧ E.gl t .blt = true
          · rw [if_pos hv] at h
            obtain ⟨rfl, ht⟩ := hv
            obtain ⟨ca, h1, h⟩ := ofO_ok h
            cases h
            refine ⟨nofun, fun X Wx A x ap tk => ?_⟩
            obtain ⟨⟨g1, g2, g3⟩, g4⟩ := x.gl hg
            obtain ⟨⟨t1, t2, t3⟩, t4⟩ := x.gl ht
            exact peIsc g1 (x.blt _ g4) x.exc x.iscV (pe_bltn (v := .ty "ValueError") t1 (x.blt _ t4) (by decide +kernel) rfl t3 t2) (fun u r => r) ((hf a ca h1).ar x ap tk) (st _) rfl rfl
          · rw [if_neg hv] at h
            obtain ⟨ht, h⟩ := ifSome h
            obtain ⟨ca, h1, h⟩ := ofO_ok h
            cases h
            refine ⟨nofun, fun X Wx A x ap tk => ?_⟩
            obtain ⟨⟨g1, g2, g3⟩, g4⟩ := x.gl hg
            obtain ⟨⟨t1, t2, t3⟩, t4⟩ := x.gl ht
            obtain ⟨C, c1, c2⟩ := x.cls _ t4
            exact peIsc g1 (x.blt _ g4) x.exc c2 (pe_glob (v := .ref C) t1 c1 rfl t2) (fun u r => r) ((hf a ca h1).ar x ap tk) (st _) rfl rfl
      · cases h
    · rw [if_neg h0] at h
      split at h
      · rename_i p r hp
        obtain ⟨⟨hg, hne⟩, h⟩ := ifSome h
        obtain ⟨ca, h1, h⟩ := ofO_ok h
        cases h
        cases args with
        | nil => exact absurd rfl hne
        | cons e es =>
          refine ⟨nofun, fun X Wx A x ap tk => ?_⟩
          obtain ⟨id, ty⟩ := r
          exact callPs_ok x hp hg (cAs_ok hf x ap tk h1) (cAs_star h1)
      · by_cases hg : E.gl nm .fn = true
        · rw [if_pos hg] at h
          obtain ⟨ca, h1, h⟩ := ofO_ok h
          cases h
          refine ⟨nofun, fun X Wx A x ap tk => ?_⟩
          cases args with
          | nil =>
            cases h1
            exact peFn0 x tk hg
          | cons e es => exact peFn x tk hg (cAs_ok hf x ap tk h1) (cAs_star h1)
        · rw [if_neg hg] at h
          obtain ⟨i, hi, h⟩ := ofO_ok h
          obtain ⟨hne, h⟩ := ifSome h
          obtain ⟨ca, h1, h⟩ := ofO_ok h
          cases h
          cases args with
          | nil => exact absurd rfl hne
          | cons e es =>
            refine ⟨nofun, fun X Wx A x ap tk => ?_⟩
            obtain ⟨s1, s2, s3, s4⟩ := x.slot hi
            have hs := cAs_star h1
            rw [List.all_cons, Bool.and_eq_true] at hs
            exact peCallV x.fns s1 s2 tk (cAs_ok hf x ap tk h1) s3 s4 (star_cons hs.1) (star_plain hs.2)
  · rename_i o m apos
    obtain ⟨⟨hsup, hline, hne, hlen⟩, h⟩ := ifSome h
    split at h
    · rename_i y yp
      split at h
      · rename_i i hi
        split at h
        · rename_i p hp
          obtain ⟨ca, h1, h⟩ := ofO_ok h
          cases h
          cases args with
          | nil => exact absurd rfl hne
          | cons e es =>
            exact ⟨nofun, fun X Wx A x ap tk => mutPs_ok x hp hi (cAs_ok hf x ap tk h1) (cAs_star h1) hline hlen⟩
        · by_cases e1 : m = "index"
          · rw [if_pos e1] at h
            subst e1
            split at h
            · rename_i a
              obtain ⟨d, hd, h⟩ := ofO_ok h
              cases h
              refine ⟨nofun, fun X Wx A x ap tk => ?_⟩
              obtain ⟨v, k1, k2, k3, _⟩ := kOf_ok (G := G) (X := X) hd
              obtain ⟨s1, s2, s3, s4⟩ := x.slot hi
              exact peIndex x.K k2 (peVa s1 s2 s3 s4) k1 (base_of rfl) (few_of (by rw [List.all_cons, k3]; rfl) hlen) hline (star_cons k3) rfl
            · cases h
          · rw [if_neg e1] at h
            by_cases e2 : m = "split"
            · rw [if_pos e2] at h
              subst e2
              split at h
              · rename_i a
                split at h
                · rename_i d hd
                  cases h
                  refine ⟨nofun, fun X Wx A x ap tk => ?_⟩
                  obtain ⟨v, k1, k2, k3, _⟩ := kOf_ok (G := G) (X := X) hd
                  obtain ⟨s1, s2, s3, s4⟩ := x.slot hi
                  exact peStrA k2 PySem.F.slot_str_split PySem.F.type_str_split mt_split mSplit (peVa s1 s2 s3 s4) k1 (star_cons k3) (base_of rfl) hline
                · obtain ⟨hn, h⟩ := ifSome h
                  obtain ⟨ca, h1, h⟩ := ofO_ok h
                  cases h
                  refine ⟨nofun, fun X Wx A x ap tk => ?_⟩
                  obtain ⟨s1, s2, s3, s4⟩ := x.slot hi
                  exact peSpl s1 s2 s3 s4 ((hf a ca h1).ev x ap tk) (star_cons hn) (base_of rfl) hline
              · cases h
            · rw [if_neg e2] at h
              by_cases e3 : m = "partition"
              · rw [if_pos e3] at h
                subst e3
                split at h
                · rename_i a
                  obtain ⟨d, hd, h⟩ := ofO_ok h
                  cases h
                  refine ⟨nofun, fun X Wx A x ap tk => ?_⟩
                  obtain ⟨v, k1, k2, k3, _⟩ := kOf_ok (G := G) (X := X) hd
                  obtain ⟨s1, s2, s3, s4⟩ := x.slot hi
                  exact peStrA k2 PySem.F.slot_str_partition PySem.F.type_str_partition mt_partition mPart (peVa s1 s2 s3 s4) k1 (star_cons k3) (base_of rfl) hline
                · cases h
              · rw [if_neg e3] at h; cases h
      · cases h
    · rename_i a k kp
      by_cases e1 : m = "join"
      · rw [if_pos e1] at h
        subst e1
        split at h
        · rename_i e
          obtain ⟨hn, h⟩ := ifSome h
          obtain ⟨ca, h1, h⟩ := ofO_ok h
          cases h
          exact ⟨nofun, fun X Wx A x ap tk => peStrO PySem.F.slot_str_join PySem.F.type_str_join mt_join (mJoin x.K) pe_str ((hf e ca h1).ar x ap tk) (star_cons hn) (base_of rfl) hline⟩
        · cases h
      · rw [if_neg e1] at h; cases h
    · cases h
  · rename_i l ix p
    obtain ⟨hne, h⟩ := ifSome h
    obtain ⟨cc, h0, h⟩ := ofO_ok h
    obtain ⟨ca, h1, h⟩ := ofO_ok h
    cases h
    cases args with
    | nil => exact absurd rfl hne
    | cons e es =>
      refine ⟨nofun, fun X Wx A x ap tk => ?_⟩
      have hs := cAs_star h1
      rw [List.all_cons, Bool.and_eq_true] at hs
      exact peCallX x.fns tk ((hf _ cc h0).ev x ap tk) (cAs_ok hf x ap tk h1) (star_cons hs.1) (star_plain hs.2)
  · cases h
end
end Ev

set_option Elab.async false
set_option linter.all false
set_option maxRecDepth 100000
set_option maxHeartbeats 4000000
namespace Ev
open PySem PySem.Spec PyProof.Rows L2
section
variable {X : Cx} {G : Gm} {F : Fe} {E : SE} {A : Amb} {Wx : WX}
theorem cTgN_ok (x : EX X G F E) {e : Expr} {i : Nat} (h : cTgN E e = some i) : PG X e (gName i) ∧ ∃ y p, e = .Name y p := by
  unfold cTgN at h
  split at h
  · rename_i y p
    obtain ⟨h1, h⟩ := ifSome h
    have hi : X.N[i]? = some y := by rw [x.N]; exact ixOf_get h
    refine ⟨?_, y, p, rfl⟩
    rcases h1 with h1 | ⟨h1, h2⟩
    · have h1 : X.env.scope.names.lookup y = some .local := by rw [x.sc]; exact h1
      exact pg_name x.nd hi (.inl h1) (.inr h1)
    · have h1 : X.env.scope.names.lookup y = some .cell := by rw [x.sc]; exact h1
      exact pg_name x.nd hi (.inr h1) (.inl (x.fc y h2))
  · cases h
theorem cTgs_ok (x : EX X G F E) : ∀ {es : List Expr} {is : List Nat}, cTgs E es = some is → PGs X es (gNs is) ∧ (assignEach es X.env).length = is.length ∧ (assignEach es X.env).findIdx? (·.1) = none
  | [], is, h => by
    cases h
    exact ⟨pgs_nil, rfl, rfl⟩
  | e :: es, is, h => by
    unfold cTgs at h
    obtain ⟨i, h1, h⟩ := ofO_ok h
    obtain ⟨r, h2, h⟩ := ofO_ok h
    cases h
    obtain ⟨q1, y, p, rfl⟩ := cTgN_ok x h1
    obtain ⟨q2, q3, q4⟩ := cTgs_ok x h2
    refine ⟨pgs_cons q1 q2 rfl, ?_, ?_⟩
    · show (assignEach es X.env).length + 1 = _
      rw [q3]; rfl
    · show List.findIdx? (·.1) ((false, assign (.Name y p) X.env) :: assignEach es X.env) = none
      rw [List.findIdx?_cons, if_neg (by simp), q4]
      rfl
theorem cTg_ok (x : EX X G F E) {e : Expr} {is : List Nat} {tup : Bool} (h : cTg E e = some (is, tup)) : PG X e (gTgt X.K is tup) ∧ (tup = true → ∃ elts kk tpos, e = .Tuple elts kk tpos) := by
  unfold cTg at h
  split at h
  · rename_i es k p
    obtain ⟨r, h1, h⟩ := ofO_ok h
    cases h
    obtain ⟨q1, q2, q3⟩ := cTgs_ok x h1
    exact ⟨pg_tup x.calm q1 q2 q3, fun _ => ⟨_, _, _, rfl⟩⟩
  · obtain ⟨i, h1, h⟩ := ofO_ok h
    cases h
    exact ⟨(cTgN_ok x h1).1, fun z => by cases z⟩
theorem cI_ok {f : Expr → Option CE} (hf : ∀ e c, f e = some c → Fit G F E e c) {tup : Bool} {e tg : Expr} {ci : CI} (h : cI f E tup e = some ci) (ht : tup = true → ∃ elts kk tpos, tg = .Tuple elts kk tpos) (x : EX X G F E) (ap : APin A E.pin) (tk : Takes X Wx) : PI X tg e (TIt G A Wx (evI F ci)) := by
  have dflt : ∀ e ci, (ofO (f e) fun c => some (CI.seq c)) = some ci → PI X tg e (TIt G A Wx (evI F ci)) := fun e ci h => by
    obtain ⟨c, h1, h⟩ := ofO_ok h
    cases h
    exact piSeq x.K ((hf e c h1).ar x ap tk)
  unfold cI at h
  split at h
  · rename_i nm np a cp
    by_cases h0 : (nm = "range" ∧ E.gl nm .blt = true) ∧ notStar a = true
    · rw [if_pos h0] at h
      obtain ⟨⟨rfl, hg⟩, hn⟩ := h0
      obtain ⟨c, h1, h⟩ := ofO_ok h
      cases h
      obtain ⟨⟨g1, _, _⟩, g4⟩ := x.gl hg
      exact piRange1 g1 (x.blt _ g4) ((hf a c h1).ar x ap tk) (star_cons hn)
    · rw [if_neg h0] at h
      by_cases h0 : (nm = "enumerate" ∧ E.gl nm .blt = true) ∧ notStar a = true ∧ tup = true
      · rw [if_pos h0] at h
        obtain ⟨⟨rfl, hg⟩, hn, htp⟩ := h0
        obtain ⟨c, h1, h⟩ := ofO_ok h
        cases h
        obtain ⟨⟨g1, _, _⟩, g4⟩ := x.gl hg
        obtain ⟨elts, kk, tpos, rfl⟩ := ht htp
        exact piEnum x.K g1 (x.blt _ g4) ((hf a c h1).ar x ap tk) (star_cons hn)
      · rw [if_neg h0] at h
        exact dflt _ _ h
  · rename_i nm np a b cp
    by_cases h0 : (nm = "range" ∧ E.gl nm .blt = true) ∧ notStar a = true ∧ notStar b = true
    · rw [if_pos h0] at h
      obtain ⟨⟨rfl, hg⟩, hn, hn2⟩ := h0
      obtain ⟨c, h1, h⟩ := ofO_ok h
      obtain ⟨c2, h2, h⟩ := ofO_ok h
      cases h
      obtain ⟨⟨g1, _, _⟩, g4⟩ := x.gl hg
      exact piRange2 g1 (x.blt _ g4) ((hf a c h1).ar x ap tk) ((hf b c2 h2).ar x ap tk) (by rw [star_cons hn, star_cons hn2]; rfl) (star_cons hn2)
    · rw [if_neg h0] at h
      by_cases h0 : (nm = "zip" ∧ E.gl nm .blt = true) ∧ notStar a = true ∧ notStar b = true ∧ tup = true
      · rw [if_pos h0] at h
        obtain ⟨⟨rfl, hg⟩, hn, hn2, htp⟩ := h0
        obtain ⟨c, h1, h⟩ := ofO_ok h
        obtain ⟨c2, h2, h⟩ := ofO_ok h
        cases h
        obtain ⟨⟨g1, _, _⟩, g4⟩ := x.gl hg
        obtain ⟨elts, kk, tpos, rfl⟩ := ht htp
        exact piZip x.K g1 (x.blt _ g4) ((hf a c h1).ar x ap tk) ((hf b c2 h2).ar x ap tk) (star_cons hn) (star_cons hn2) (star_plain (by rw [List.all_cons, hn2]; rfl))
      · rw [if_neg h0] at h
        exact dflt _ _ h
  · rename_i nm np a b d cp
    by_cases h0 : (nm = "range" ∧ E.gl nm .blt = true) ∧ notStar a = true ∧ notStar b = true ∧ notStar d = true
    · rw [if_pos h0] at h
      obtain ⟨⟨rfl, hg⟩, hn, hn2, hn3⟩ := h0
      obtain ⟨c, h1, h⟩ := ofO_ok h
      obtain ⟨c2, h2, h⟩ := ofO_ok h
      obtain ⟨c3, h3, h⟩ := ofO_ok h
      cases h
      obtain ⟨⟨g1, _, _⟩, g4⟩ := x.gl hg
      exact piRange3 g1 (x.blt _ g4) ((hf a c h1).ar x ap tk) ((hf b c2 h2).ar x ap tk) ((hf d c3 h3).ar x ap tk) (star_cons hn) (star_cons hn2) (star_cons hn3) (star_plain (by rw [List.all_cons, hn2, List.all_cons, hn3]; rfl))
    · rw [if_neg h0] at h
      exact dflt _ _ h
  · exact dflt _ _ h
/-- inside a block -/
theorem EX.blk (x : EX X G F E) {s : Shared} {H : Hp} {scope : Scope} {cl : List (Str × Addr)} {C : Addr} {fp : List Addr} : EX (X.blk s H scope (compEnvC scope cl C X.env) fp) G F (E.blk scope) where
  N := x.N
  nd := x.nd
  sc := by
    show relabel scope X.env = relS E.sc scope
    unfold relabel relS Env.kindOf
    rw [x.sc]
  K := x.K
  calm := x.calm
  un := x.un
  blt := x.blt
  cls := x.cls
  fns := fun f sem h => let ⟨a, h1, h2, h3⟩ := x.fns f sem h; ⟨a, h1, h2, ⟨h3.ok, h3.keep⟩⟩
  gv := x.gv
  exc := x.exc
  iscV := x.iscV
  fld := x.fld
  fc := fun _ h => h
theorem comp_parts {rec : SE → Expr → Option CE} (hr : RecOk G F rec) {elt tg it : Expr} {ifs : List Expr} {scope : Scope} {pos : Pos} {t : List Nat × Bool} {ci : CI} {cc ce : CE} (x : EX X G F E) (ap : APin A E.pin) (tk : Takes X Wx)
    (h1 : cTg (E.blk scope) tg = some t) (h2 : cI (rec E) E t.2 it = some ci) (k1 : notSet it = true) (k2 : blkC E.N E.sc scope (cOwn E scope) = true) (k3 : (((cOwn E scope).map (·.2)).all fun i => t.1.contains i) = true) (k4 : (t.1.all fun i => ((cOwn E scope).map (·.2)).contains i) = true)
    (k5 : (t.1.all fun i => !E.pin.contains i) = true) (hc : (ifs = [] ∧ cc = .k (.bl true)) ∨ ∃ c, ifs = [c] ∧ rec (E.blk scope) c = some cc) (he : rec (E.blk scope) elt = some ce) :
    PE X (.ListComp elt [⟨tg, it, ifs, 0⟩] scope pos) (TEv G A Wx F (.comp ci t.1 t.2 cc ce)) ∧
    ∀ {i : Nat} {y : Str} {py spos : Pos}, X.N[i]? = some y → X.env.scope.names.lookup y = some .local → swapsWith (.ListComp elt [⟨tg, it, ifs, 0⟩] scope pos) (some (.Name y py)) spos.line X.env = pure true →
      PS X (.Assign [.Name y py] (.ListComp elt [⟨tg, it, ifs, 0⟩] scope pos) spos) (TSs G A Wx (evS F E.pin (.set i (.comp ci t.1 t.2 cc ce)))) := by
  have gt := fun (s : Shared) (H : Hp) (C : Addr) (cl : List (Str × Addr)) (fp : List Addr) => (cTg_ok (x.blk (s := s) (H := H) (scope := scope) (cl := cl) (C := C) (fp := fp)) (is := t.1) (tup := t.2) h1)
  have tt : ∃ tup' : Bool, True := ⟨true, trivial⟩
  have htg : t.2 = true → ∃ elts kk tpos, tg = .Tuple elts kk tpos := (gt X.s_0 X.H_0 0 [] []).2
  have hi := cI_ok (A := A) (Wx := Wx) (fun e c => hr E e c) h2 htg x ap tk
  have ok : BlkOk X.N X.env.scope scope (cOwn E scope) := by rw [x.N, x.sc]; exact blkOk_by k2
  have hv : ∀ i, i ∈ (cOwn E scope).map (·.2) ↔ i ∈ t.1 := fun i => ⟨fun q => by simpa using List.all_eq_true.mp k3 i q, fun q => by simpa using List.all_eq_true.mp k4 i q⟩
  have hp : ∀ i ∈ t.1, i ∉ E.pin := fun i q => by simpa using List.all_eq_true.mp k5 i q
  have hE : ∀ (s : Shared) (H : Hp) (C : Addr) (cl : List (Str × Addr)) (fp : List Addr), PE (X.blk s H scope (compEnvC scope cl C X.env) fp) elt (TEa G F E.pin ce) := fun s H C cl fp => peTEa fun A' ap' => ((hr _ _ _ he).ev x.blk ap' takes0)
  rcases hc with ⟨rfl, rfl⟩ | ⟨c, rfl, hc⟩
  · have hT : ∀ (s : Shared) (H : Hp) (C : Addr) (cl : List (Str × Addr)) (fp : List Addr), PTs (X.blk s H scope (compEnvC scope cl C X.env) fp) [] tYes := fun _ _ _ _ _ => pts_nil
    exact ⟨peComp x.K ap x.calm x.nd hi ok (fun s H C cl fp => (gt s H C cl fp).1) hT hE (notSet_folded k1) (fun _ _ _ => tyes_of) hv hp, fun hy hl hsw => psSetComp x.K ap x.calm x.nd hy hl hsw hi ok (fun s H C cl fp => (gt s H C cl fp).1) hT hE (notSet_folded k1) (fun _ _ _ => tyes_of) hv hp⟩
  · have hT : ∀ (s : Shared) (H : Hp) (C : Addr) (cl : List (Str × Addr)) (fp : List Addr), PTs (X.blk s H scope (compEnvC scope cl C X.env) fp) [c] (TTa G F E.pin cc) := fun s H C cl fp => pts_one (ptTTa fun A' ap' => ((hr _ _ _ hc).ts x.blk ap' takes0))
    exact ⟨peComp x.K ap x.calm x.nd hi ok (fun s H C cl fp => (gt s H C cl fp).1) hT hE (notSet_folded k1) (fun _ _ _ h => h) hv hp, fun hy hl hsw => psSetComp x.K ap x.calm x.nd hy hl hsw hi ok (fun s H C cl fp => (gt s H C cl fp).1) hT hE (notSet_folded k1) (fun _ _ _ h => h) hv hp⟩
end
end Ev

set_option Elab.async false
set_option linter.all false
set_option maxRecDepth 100000
set_option maxHeartbeats 8000000
namespace Ev
open PySem PySem.Spec PyProof.Rows L2
section
variable {G : Gm} {F : Fe}
theorem stepE_ok {rec : SE → Expr → Option CE} (hr : RecOk G F rec) : RecOk G F (stepE rec) := by
  intro E e c h
  have hf : ∀ e c, rec E e = some c → Fit G F E e c := fun e c => hr E e c
  unfold stepE at h
  split at h
  · -- constants
    obtain ⟨d, hd, rfl⟩ := Option.map_eq_some_iff.mp h
    refine ⟨fun X Wx A x ap tk => ?_, fun X x i z => by cases z⟩
    obtain ⟨v, k1, k2, k3, k4⟩ := kOf_ok (X := X) (G := G) hd
    have hp : PE X _ (TEv G A Wx F (.k d)) := peImp k1 fun _ _ _ => tevK k2
    exact ⟨hp, ptTru x.K hp (k4 _)⟩
  · -- names
    rename_i y p
    split at h
    · rename_i i hi
      cases h
      refine ⟨fun X Wx A x ap tk => ?_, fun X x j z => ?_⟩
      · obtain ⟨s1, s2, s3, s4⟩ := x.slot hi
        exact ⟨peV s1 s2 s3 s4, ptTru x.K (peV s1 s2 s3 s4) fun _ => rfl⟩
      · cases z
        obtain ⟨s1, s2, s3, s4⟩ := x.slot hi
        exact ⟨y, p, rfl, s1, s2, s3, s4⟩
    · obtain ⟨hg, h⟩ := ifSome h
      cases h
      refine fit_of nofun (fun _ _ => rfl) fun X Wx A x ap tk => ?_
      obtain ⟨g1, g2, g3⟩ := x.glob hg
      cases q : F.gv y with
      | some d => exact peG g1 x.gv q g2
      | none =>
        refine ⟨fun pins s σ H Q I h => ?_⟩
        obtain ⟨g, τ, ω, S, h⟩ := h
        have h := noTie_out h
        simp only [evE, q, ofO] at h
        exact h.elim
  · obtain ⟨ca, h1, h⟩ := ofO_ok h
    cases h
    exact fit_of nofun (fun _ _ => rfl) fun X Wx A x ap tk => peTup (cAs_ok hf x ap tk h1)
  · obtain ⟨ca, h1, h⟩ := ofO_ok h
    cases h
    exact fit_of nofun (fun _ _ => rfl) fun X Wx A x ap tk => peLst (cAs_ok hf x ap tk h1)
  · cases h
    exact fit_of nofun (fun _ _ => rfl) fun X Wx A x ap tk => peEmp
  · obtain ⟨p, hp, h⟩ := ofO_ok h
    obtain ⟨ca, h1, h⟩ := ofO_ok h
    obtain ⟨cb, h2, h⟩ := ofO_ok h
    cases h
    exact fit_of nofun (fun _ _ => rfl) fun X Wx A x ap tk => peBin (opB_ok x hp) ((hf _ _ h1).ar x ap tk) ((hf _ _ h2).ar x ap tk)
  · obtain ⟨ca, h1, h⟩ := ofO_ok h
    cases h
    exact fit_of nofun (fun _ _ => rfl) fun X Wx A x ap tk => peUn opNeg ((hf _ _ h1).ar x ap tk)
  · obtain ⟨ca, h1, h⟩ := ofO_ok h
    cases h
    exact fit2 nofun fun X Wx A x ap tk => ⟨peNot x.K ((hf _ _ h1).ev x ap tk), ptNot ((hf _ _ h1).ts x ap tk)⟩
  · rename_i op a b r p
    exact fit2 (cBool_nv h) fun X Wx A x ap tk => by
      obtain ⟨q1, q2⟩ := cBool_ok hf x ap tk (pos := p) h
      exact ⟨q1, q2.pt⟩
  · obtain ⟨ca, h1, h⟩ := ofO_ok h
    cases h
    exact fit2 nofun fun X Wx A x ap tk => ⟨pcIsN ((hf _ _ h1).ar x ap tk), ptIsN ((hf _ _ h1).ar x ap tk)⟩
  · obtain ⟨ca, h1, h⟩ := ofO_ok h
    cases h
    exact fit2 nofun fun X Wx A x ap tk => ⟨pcNotN ((hf _ _ h1).ar x ap tk), ptNotN ((hf _ _ h1).ar x ap tk)⟩
  · obtain ⟨hm, h⟩ := ifSome h
    obtain ⟨p, hp, h⟩ := ofO_ok h
    obtain ⟨ca, h1, h⟩ := ofO_ok h
    obtain ⟨cb, h2, h⟩ := ofO_ok h
    cases h
    exact fit2 nofun fun X Wx A x ap tk => ⟨peCmp (opC_ok x hp).1 ((hf _ _ h1).ar x ap tk) ((hf _ _ h2).ar x ap tk) hm, ptCmp (opC_ok x hp).2 (opC_ok x hp).1 ((hf _ _ h1).ar x ap tk) ((hf _ _ h2).ar x ap tk) hm⟩
  · obtain ⟨hm, h⟩ := ifSome h
    obtain ⟨p, hp, h⟩ := ofO_ok h
    obtain ⟨q, hq, h⟩ := ofO_ok h
    obtain ⟨ca, h1, h⟩ := ofO_ok h
    obtain ⟨cb, h2, h⟩ := ofO_ok h
    obtain ⟨cc, h3, h⟩ := ofO_ok h
    cases h
    exact fit2 nofun fun X Wx A x ap tk => ⟨peChain (opC_ok x hp).1 (opC_ok x hq).1 ((hf _ _ h1).ev x ap tk) ((hf _ _ h2).ev x ap tk) ((hf _ _ h3).ev x ap tk) hm, ptChain (opC_ok x hp).1 (opC_ok x hq).1 ((hf _ _ h1).ev x ap tk) ((hf _ _ h2).ev x ap tk) ((hf _ _ h3).ev x ap tk) hm⟩
  · obtain ⟨hm, h⟩ := ifSome h
    obtain ⟨p, hp, h⟩ := ofO_ok h
    obtain ⟨q, hq, h⟩ := ofO_ok h
    obtain ⟨r, hr, h⟩ := ofO_ok h
    obtain ⟨ca, h1, h⟩ := ofO_ok h
    obtain ⟨cb, h2, h⟩ := ofO_ok h
    obtain ⟨cc, h3, h⟩ := ofO_ok h
    obtain ⟨cd, h4, h⟩ := ofO_ok h
    cases h
    exact fit2 nofun fun X Wx A x ap tk => ⟨peChain3 (opC_ok x hp).1 (opC_ok x hq).1 (opC_ok x hr).1 ((hf _ _ h1).ev x ap tk) ((hf _ _ h2).ev x ap tk) ((hf _ _ h3).ev x ap tk) ((hf _ _ h4).ev x ap tk) hm, ptChain3 (opC_ok x hp).1 (opC_ok x hq).1 (opC_ok x hr).1 ((hf _ _ h1).ev x ap tk) ((hf _ _ h2).ev x ap tk) ((hf _ _ h3).ev x ap tk) ((hf _ _ h4).ev x ap tk) hm⟩
  · obtain ⟨cc, h1, h⟩ := ofO_ok h
    obtain ⟨ca, h2, h⟩ := ofO_ok h
    obtain ⟨cb, h3, h⟩ := ofO_ok h
    cases h
    exact fit2 nofun fun X Wx A x ap tk => ⟨peIf ((hf _ _ h1).ts x ap tk) ((hf _ _ h2).ev x ap tk) ((hf _ _ h3).ev x ap tk), ptIf ((hf _ _ h1).ts x ap tk) ((hf _ _ h2).ts x ap tk) ((hf _ _ h3).ts x ap tk)⟩
  · obtain ⟨ca, h1, h⟩ := ofO_ok h
    obtain ⟨cb, h2, h⟩ := ofO_ok h
    cases h
    exact fit_of nofun (fun _ _ => rfl) fun X Wx A x ap tk => peSlFrom x.K ((hf _ _ h1).ar x ap tk) ((hf _ _ h2).ar x ap tk)
  · obtain ⟨ca, h1, h⟩ := ofO_ok h
    obtain ⟨cb, h2, h⟩ := ofO_ok h
    cases h
    exact fit_of nofun (fun _ _ => rfl) fun X Wx A x ap tk => peSlTo x.K ((hf _ _ h1).ar x ap tk) ((hf _ _ h2).ar x ap tk)
  · obtain ⟨ca, h1, h⟩ := ofO_ok h
    obtain ⟨cb, h2, h⟩ := ofO_ok h
    obtain ⟨cc, h3, h⟩ := ofO_ok h
    cases h
    exact fit_of nofun (fun _ _ => rfl) fun X Wx A x ap tk => peSl x.K ((hf _ _ h1).ar x ap tk) ((hf _ _ h2).ev x ap tk) ((hf _ _ h3).ev x ap tk)
  · rename_i a b p _ _ _
    split at h
    · cases h
    · rename_i hns
      obtain ⟨ca, h1, h⟩ := ofO_ok h
      obtain ⟨cb, h2, h⟩ := ofO_ok h
      cases h
      have px : PlainIx b := fun o i => by
        cases b <;> first | rfl | exact absurd rfl (hns _ _ _ _)
      exact fit_of nofun (fun _ _ => rfl) fun X Wx A x ap tk => peItem x.K ((hf _ _ h1).ar x ap tk) ((hf _ _ h2).ar x ap tk) px
  · obtain ⟨i, hi, h⟩ := ofO_ok h
    obtain ⟨hn, h⟩ := ifSome h
    cases h
    refine fit_of nofun (fun _ _ => rfl) fun X Wx A x ap tk => ?_
    obtain ⟨s1, s2, s3, s4⟩ := x.slot hi
    exact peFld s1 s2 s3 s4 (base_of rfl) x.exc (x.fld _ hn)
  · obtain ⟨t, h1, h⟩ := ofO_ok h
    obtain ⟨ci, h2, h⟩ := ofO_ok h
    obtain ⟨⟨k1, k2, k3, k4, k5⟩, h⟩ := ifSome h
    split at h
    · obtain ⟨ce, h3, h⟩ := ofO_ok h
      cases h
      exact fit_of nofun (fun _ _ => rfl) fun X Wx A x ap tk => (comp_parts hr x ap tk h1 h2 k1 k2 k3 k4 k5 (.inl ⟨rfl, rfl⟩) h3).1
    · obtain ⟨cc, h4, h⟩ := ofO_ok h
      obtain ⟨ce, h3, h⟩ := ofO_ok h
      cases h
      exact fit_of nofun (fun _ _ => rfl) fun X Wx A x ap tk => (comp_parts hr x ap tk h1 h2 k1 k2 k3 k4 k5 (.inr ⟨_, rfl, h4⟩) h3).1
    · cases h
  · obtain ⟨h1, h2⟩ := cCall_ok hf h
    exact fit_of h1 (fun _ _ => rfl) h2
  · cases h
theorem cE_ok : ∀ n, RecOk G F (cE n)
  | 0 => fun _ _ _ h => by cases h
  | n + 1 => stepE_ok (cE_ok n)
end
end Ev

set_option Elab.async false
set_option linter.all false
set_option maxRecDepth 100000
set_option maxHeartbeats 4000000
namespace Ev
open PySem PySem.Spec PyProof.Rows L2
/-- the static side of raising: the field that a class keeps -/
structure SS extends SE where
  xf : Str → Option Str
def notComp : Expr → Bool
  | .ListComp _ _ _ _ => false
  | .SetComp _ _ _ _ => false
  | .DictComp _ _ _ _ _ => false
  | _ => true
theorem swaps_of {e : Expr} {t : Option Expr} {n : Nat} {env : Env} (h : notComp e = true) : swapsWith e t n env = pure false := by
  cases e <;> first | rfl | cases h
def blkK (sc : Scope) : ScopeKind := if sc.kind.isAnnotationScope then .function else sc.kind
def swapB (sc scope : Scope) (y : Str) (py pos : Pos) : Bool := blkK sc == .function && sc.names.lookup y == some .local && py.line == pos.line && !(scope.names.any fun (n, k) => n == y && (k == .local || k == .cell))
theorem swaps_comp {elt : Expr} {gs : List Comprehension} {scope : Scope} {pos py : Pos} {y : Str} {n : Nat} {env : Env} : swapsWith (.ListComp elt gs scope pos) (some (.Name y py)) n env = pure (swapB env.scope scope y py pos) := rfl
/-- two names stored at once -/
def parB (sc : Scope) (ts vs : List Expr) : Option (Str × Str × Expr × Expr) := match ts, vs with
  | [.Name x px, .Name y py], [a, b] => if (blkK sc != .function) = false ∧ notStar a = true ∧ notStar b = true ∧ sc.names.lookup x = some .local ∧ sc.names.lookup y = some .local ∧ py.line = px.line ∧ x ≠ y ∧ (foldedForSure 8 a && foldedForSure 8 b) = false ∧ (constantsAlone 8 a && constantsAlone 8 b) = false then some (x, y, a, b) else none
  | _, _ => none
theorem par_some {sc : Scope} {ts vs : List Expr} {x y : Str} {a b : Expr} {k k2 : Nat} {pt pt2 : Pos} {env : Env} (hs : env.scope = sc) (h : parB sc ts vs = some (x, y, a, b)) : ∃ px py, ts = [.Name x px, .Name y py] ∧ vs = [a, b] ∧ notStar a = true ∧ notStar b = true ∧ sc.names.lookup x = some .local ∧ sc.names.lookup y = some .local ∧ x ≠ y ∧
    swappedStores [.Tuple ts k pt] (.Tuple vs k2 pt2) env = pure (some [x, y]) := by
  unfold parB at h
  split at h
  · rename_i x' px y' py a' b'
    obtain ⟨⟨h1, h2, h3, h4, h5, h6, h7, h8, h9⟩, h⟩ := ifSome h
    cases h
    refine ⟨px, py, rfl, rfl, h2, h3, h4, h5, h7, ?_⟩
    have e1 : env.blockKind = blkK sc := by rw [← hs]; rfl
    have s1 : ∀ e : Expr, notStar e = true → (match e with | .Starred .. => true | _ => false) = false := fun e h => by cases e <;> first | rfl | cases h
    have k4 : env.kindOf x = some .local := by show env.scope.names.lookup x = _; rw [hs]; exact h4
    have k5 : env.kindOf y = some .local := by show env.scope.names.lookup y = _; rw [hs]; exact h5
    have p1 : (Expr.Name x px).pos = px := rfl
    have p2 : (Expr.Name y py).pos = py := rfl
    unfold swappedStores
    simp only [List.length_cons, List.length_nil, e1, h1, List.any_cons, List.any_nil, s1 a h2, s1 b h3, List.head?_cons, Option.map_some, Option.getD_some, List.filterMap_cons, List.filterMap_nil, k4, k5, p1, h6, List.all_cons, List.all_nil, Bool.and_true, h8, h9]
    have d1 : ([x, y].eraseDups.length != 2) = false := by
      rw [List.eraseDups_cons, List.filter_cons]
      have : (!(y == x)) = true := by simp [Ne.symm h7]
      rw [if_pos this]
      rfl
    simp [h7, Ne.symm h7, List.eraseDups_cons, List.filter_cons]
    rintro (z | z)
    · exfalso
      revert h2 z
      cases a <;> simp [notStar]
    · exfalso
      revert h3 z
      cases b <;> simp [notStar]
  · cases h
/-- three names stored at once -/
def parB3 (sc : Scope) (ts vs : List Expr) : Option (Str × Str × Str) := match ts, vs with
  | [.Name x px, .Name y py, .Name z pz], [a, b, c] => if (blkK sc != .function) = false ∧ notStar a = true ∧ notStar b = true ∧ notStar c = true ∧ sc.names.lookup x = some .local ∧ sc.names.lookup y = some .local ∧ sc.names.lookup z = some .local ∧ py.line = px.line ∧ pz.line = px.line ∧ x ≠ y ∧ x ≠ z ∧ y ≠ z ∧
    (foldedForSure 8 a && (foldedForSure 8 b && foldedForSure 8 c)) = false ∧ (constantsAlone 8 a && (constantsAlone 8 b && constantsAlone 8 c)) = false then some (x, y, z) else none
  | _, _ => none
theorem par3_some {sc : Scope} {ts vs : List Expr} {x y z : Str} {k k2 : Nat} {pt pt2 : Pos} {env : Env} (hs : env.scope = sc) (h : parB3 sc ts vs = some (x, y, z)) : ∃ px py pz a b c, ts = [.Name x px, .Name y py, .Name z pz] ∧ vs = [a, b, c] ∧ sc.names.lookup x = some .local ∧ sc.names.lookup y = some .local ∧ sc.names.lookup z = some .local ∧ x ≠ y ∧ x ≠ z ∧ y ≠ z ∧
    swappedStores [.Tuple ts k pt] (.Tuple vs k2 pt2) env = pure (some [x, y, z]) := by
  unfold parB3 at h
  split at h
  · rename_i x' px y' py z' pz a' b' c'
    obtain ⟨⟨h1, h2, h3, h4, k1, k2, k3, p1, p2, n1, n2, n3, f1, f2⟩, h⟩ := ifSome h
    cases h
    refine ⟨px, py, pz, a', b', c', rfl, rfl, k1, k2, k3, n1, n2, n3, ?_⟩
    have e1 : env.blockKind = blkK sc := by rw [← hs]; rfl
    have k4 : env.kindOf x = some .local := by show env.scope.names.lookup x = _; rw [hs]; exact k1
    have k5 : env.kindOf y = some .local := by show env.scope.names.lookup y = _; rw [hs]; exact k2
    have k6 : env.kindOf z = some .local := by show env.scope.names.lookup z = _; rw [hs]; exact k3
    have q1 : (Expr.Name x px).pos = px := rfl
    unfold swappedStores
    simp only [List.length_cons, List.length_nil, e1, h1, List.any_cons, List.any_nil, List.head?_cons, Option.map_some, Option.getD_some, List.filterMap_cons, List.filterMap_nil, k4, k5, k6, q1, p1, p2, List.all_cons, List.all_nil, Bool.and_true, f1, f2]
    simp [n1, n2, n3, Ne.symm n1, Ne.symm n2, Ne.symm n3, List.eraseDups_cons, List.filter_cons]
    rintro (z | z | z)
    · exfalso
      revert h2 z
      cases a' <;> simp [notStar]
    · exfalso
      revert h3 z
      cases b' <;> simp [notStar]
    · exfalso
      revert h4 z
      cases c' <;> simp [notStar]
  · cases h
/-- what is told of an own exception's class without a field -/
structure Exc0At (X : Cx) (G : Gm) (c : Str) (C : Addr) : Prop where
  cls : G.cls c = some C
  mg : X.mg c = some (.ref C)
  ex : ∃ (B newId initId : String) (bm : List Value), ExcBaseFacts B newId initId bm ∧ PySem.W.excIn X.K C bm newId = true
  kp : PySem.W.keepIn X.K (.ref C) = true
  sb : PySem.W.subIn X.K (.ref C) (.type "BaseException") = some true
  ty : PySem.W.typeIn X.K (.ref C) = some (.type "type")
/-- what is known where a statement stands -/
structure SX (X : Cx) (G : Gm) (F : Fe) (E : SS) : Prop extends EX X G F E.toSE where
  stk : X.stack = X.env :: X.outer
  fr : X.env.frame = some X.env.locals
  po : PassesOwn (model X.prog X.w) X.A X.env X.xe
  r0 : ∀ c, E.gk c = some .cls → E.xf c = none → ∃ C, Exc0At X G c C
  r1 : ∀ c n, E.gk c = some .cls → E.xf c = some n → ∃ C, Exc1At X G c n C
  sub : ∀ c, E.gk c = some .cls → ∃ C, X.mg c = some (.ref C) ∧ SubOk X.K G c (.ref C)
/-- written constants are stored as any tuple -/
theorem folded_none {ts vs : List Expr} {k k2 : Nat} {pt pt2 : Pos} {env : Env} (h : vs.all (foldedForSure 8) = true) : swappedStores [.Tuple ts k pt] (.Tuple vs k2 pt2) env = pure none := by
  unfold swappedStores
  dsimp only
  split
  · rfl
  · split
    · rfl
    · split
      · rfl
      · first | rfl | rw [if_pos h]
def cOne : List Stmt → Option Stmt
  | [s] => some s
  | _ => none
/-- an assignment to a tuple -/
def cAsgT (f : Expr → Option CE) (E : SS) (ts : List Expr) (e : Expr) : Option CS := match ts with
  | [.Subscript (.Name y _) (.Constant (.int 0) _ _) _, .Name d dp] => (match e with
    | .Call (.Name nm _) [a, b] [] _ => if nm = "divmod" ∧ E.gl nm .blt = true then ofO (E.slot y) fun i => ofO (cTgN E.toSE (.Name d dp)) fun j => ofO (f e) fun c => (match c with
      | .prim .divmod es => some (.dm i j es)
      | _ => none) else none
    | _ => none)
  | _ => (match e with
    | .Tuple vs _ _ => (match parB E.sc ts vs with
      | some (x, y, _, _) => ofO (ixOf E.N x) fun i => ofO (ixOf E.N y) fun j => ofO (cAs f vs) fun c => some (.setP [i, j] c)
      | none => (match parB3 E.sc ts vs with
        | some (x, y, z) => ofO (ixOf E.N x) fun i => ofO (ixOf E.N y) fun j => ofO (ixOf E.N z) fun l => ofO (cAs f vs) fun c => some (.setP3 [i, j, l] c)
        | none => if vs.all (foldedForSure 8) = true then ofO (cTgs E.toSE ts) fun is => ofO (f e) fun c => some (.setT is c) else none))
    | _ => ofO (cTgs E.toSE ts) fun is => ofO (f e) fun c => some (.setT is c))
def cBs (rec : SS → Stmt → Option CS) (E : SS) : List Stmt → Option CB
  | [] => some .nil
  | s :: l => ofO (rec E s) fun c => ofO (cBs rec E l) fun r => some (.cons c r)
def stepS (rec : SS → Stmt → Option CS) (fe : SS → Expr → Option CE) (E : SS) (st : Stmt) : Option CS := match st with
  | .Expr (.Constant (.str _) _ _) _ => some .pass
  | .Pass _ => some .pass
  | .Expr e _ => if notComp e = true then ofO (fe E e) fun c => some (.ex c) else none
  | .Assign [.Name y py] e pos => ofO (cTgN E.toSE (.Name y py)) fun i => ofO (fe E e) fun c => (match e with
    | .ListComp _ _ scope cp => if swapB E.sc scope y py cp = false then some (.set i c) else if E.sc.names.lookup y = some .local then some (.set i c) else none
    | e => if notComp e = true then some (.set i c) else none)
  | .Assign [.Tuple ts _ _] e _ => cAsgT (fe E) E ts e
  | .Assign [.Subscript (.Name y _) ix _] e _ => if notComp e = true then (match ix with
    | .Slice _ _ _ _ => none
    | ix => ofO (E.slot y) fun i => ofO (fe E ix) fun ci => ofO (fe E e) fun c => some (.setI i ci c)) else none
  | .If c a b _ => ofO (fe E c) fun cc => ofO (cBs rec E a) fun ca => ofO (cBs rec E b) fun cb => some (.iff cc ca cb)
  | .While c b [] _ => ofO (fe E c) fun cc => ofO (cBs rec E b) fun cb => some (.whl cc cb)
  | .For tg it b [] _ => ofO (cTg E.toSE tg) fun t => ofO (cI (fe E) E.toSE t.2 it) fun ci => ofO (cBs rec E b) fun cb => if notSet it = true then some (.for ci t.1 t.2 cb) else none
  | .Return (some e) _ => ofO (fe E e) fun c => some (.ret c)
  | .Return none _ => some (.ret (.k .non))
  | .Raise (some (.Call (.Name c _) [a] [] _)) none _ => if E.gl c .cls = true ∧ notStar a = true then (match E.xf c with
    | some n => ofO (fe E a) fun ca => some (.raise c (some n) ca)
    | none => (match a with
      | .Constant (.str _) _ _ => some (.raise c none (.k .non))
      | _ => none)) else none
  | .Try b [.ExceptHandler (some (.Name c _)) (some n) [.Assign [.Name y py] (.Name n' np) _] _] [] [] _ => if E.gl c .cls = true ∧ n' = n ∧ E.sc.names.lookup n = some .local ∧ E.sc.names.lookup y = some .local ∧ okName n = true then
      ofO (cBs rec E b) fun cb => ofO (ixOf E.N n) fun i => ofO (ixOf E.N y) fun j => some (.tryAs cb c i j) else none
  | .Try b [.ExceptHandler (some (.Name c _)) (some n) [.Assign [.Name y _] (.Tuple [.Constant (.str s) _ _, .Attribute (.Name n1 _) f _] _ _) _, .If (.Call (.Name isi _) [.Attribute (.Name n2 _) f2 _, .Name bl _] [] _) [.Assign [.Name y2 _] (.Constant .none _ _) _] [] _] _] [] [] _ =>
    if E.gl c .cls = true ∧ (n1 = n ∧ n2 = n ∧ f2 = f ∧ y2 = y) ∧ (isi = "isinstance" ∧ bl = "bool" ∧ E.gl isi .blt = true ∧ E.gl bl .blt = true) ∧ E.sc.names.lookup n = some .local ∧ E.sc.names.lookup y = some .local ∧ okName n = true ∧ E.fld f = true then
      ofO (cBs rec E b) fun cb => ofO (ixOf E.N n) fun i => ofO (ixOf E.N y) fun j => some (.tryRd cb c i j s f) else none
  | .Try b [.ExceptHandler (some (.Name c _)) none [.Return (some k) _] _] [] [] _ => if E.gl c .cls = true then ofO (kOf k) fun d => ofO (cBs rec E b) fun cb => some (.tryOnly cb c (.cons (.ret (.k d)) .nil)) else none
  | _ => none
def cS (m : Nat) : Nat → SS → Stmt → Option CS
  | 0 => fun _ _ => none
  | n + 1 => stepS (cS m n) (fun E e => cE m E.toSE e)
end Ev

set_option Elab.async false
set_option linter.all false
set_option maxRecDepth 100000
set_option maxHeartbeats 8000000
namespace Ev
open PySem PySem.Spec PyProof.Rows L2
section
variable {G : Gm} {F : Fe} {E : SS} {X : Cx} {Wx : WX}
def GoodS (G : Gm) (F : Fe) (E : SS) (st : Stmt) (s : CS) : Prop := ∀ (X : Cx) (Wx : WX), SX X G F E → Takes X Wx → PS X st (TSa G Wx E.pin (evS F E.pin s))
def GoodB (G : Gm) (F : Fe) (E : SS) (sts : List Stmt) (b : CB) : Prop := ∀ (X : Cx) (Wx : WX), SX X G F E → Takes X Wx → PSs X sts (TSa G Wx E.pin (evB F E.pin b))
def RecS (G : Gm) (F : Fe) (rec : SS → Stmt → Option CS) : Prop := ∀ E st s, rec E st = some s → GoodS G F E st s
theorem psA {pin : List Nat} {st : Stmt} {m : Sg → Option SR} (h : ∀ A, APin A pin → PS X st (TSs G A Wx m)) : PS X st (TSa G Wx pin m) := ⟨fun pins s σ H D I ⟨A, ap, q⟩ => (h A ap).run pins s σ H D I q⟩
theorem cBs_ok {rec : SS → Stmt → Option CS} (hr : RecS G F rec) : ∀ {l : List Stmt} {b : CB}, cBs rec E l = some b → GoodB G F E l b
  | [], b, h => by
    cases h
    exact fun X Wx x tk => pssImp pss_nil fun _ _ _ => tsa_nil
  | s :: l, b, h => by
    unfold cBs at h
    obtain ⟨c, h1, h⟩ := ofO_ok h
    obtain ⟨r, h2, h⟩ := ofO_ok h
    cases h
    exact fun X Wx x tk => pssImp (pss_cons (hr _ _ _ h1 X Wx x tk) (cBs_ok hr h2 X Wx x tk)) fun _ _ _ => tsa_cons
/-- inside a try -/
theorem SX.tr (x : SX X G F E) {pn : List (Addr × Obj)} {xe : Value → Shared → Prop} (po : PassesOwn (model X.prog X.w) X.A X.env xe) : SX (X.tr pn xe) G F E where
  N := x.N
  nd := x.nd
  sc := x.sc
  K := x.K
  calm := x.calm
  un := x.un
  blt := x.blt
  cls := x.cls
  fns := fun f sem h => let ⟨a, h1, h2, h3⟩ := x.fns f sem h; ⟨a, h1, h2, ⟨h3.ok, h3.keep⟩⟩
  gv := x.gv
  exc := x.exc
  iscV := x.iscV
  fld := x.fld
  fc := x.fc
  stk := x.stk
  fr := x.fr
  po := po
  r0 := fun c h1 h2 => let ⟨C, q⟩ := x.r0 c h1 h2; ⟨C, q.cls, q.mg, q.ex, q.kp, q.sb, q.ty⟩
  r1 := fun c n h1 h2 => let ⟨C, q⟩ := x.r1 c n h1 h2; ⟨C, q.cls, q.mg, q.oex, q.no, q.ini⟩
  sub := x.sub
theorem cAsgT_ok {f : Expr → Option CE} (hf : ∀ e c, f e = some c → Fit G F E.toSE e c) {ts : List Expr} {k : Nat} {tp pos : Pos} {e : Expr} {s : CS} (h : cAsgT f E ts e = some s) : GoodS G F E (.Assign [.Tuple ts k tp] e pos) s := by
  intro X Wx x tk
  refine psA fun A ap => ?_
  have xe := x.toEX
  unfold cAsgT at h
  split at h
  · rename_i y yp k0 kp sp d dp
    split at h
    · rename_i nm np a b cp
      obtain ⟨⟨rfl, hg⟩, h⟩ := ifSome h
      obtain ⟨i, hi, h⟩ := ofO_ok h
      obtain ⟨j, hj, h⟩ := ofO_ok h
      obtain ⟨c, hc, h⟩ := ofO_ok h
      split at h
      · rename_i es
        cases h
        obtain ⟨s1, s2, s3, s4⟩ := xe.slot hi
        have pe := (hf _ _ hc).ev (A := A) (Wx := Wx) xe ap tk
        have pg : PG X (.Tuple [.Subscript (.Name y yp) (.Constant (.int 0) k0 kp) sp, .Name d dp] k tp) (gDm X.K i j) :=
          pg_tup xe.calm (pgs_cons (pg_sub (pe_var s1 s2 s3 s4) pe_int set_list (fun _ => rfl)) (pgs_cons (cTgN_ok xe hj).1 pgs_nil rfl) rfl) rfl rfl
        exact psImp (ps_asg pe pg rfl rfl rfl) fun _ _ _ => tss_dm xe.K ap
      · cases h
    · cases h
  · split at h
    · rename_i vs vk vp
      split at h
      · rename_i x' y' a' b' hp
        obtain ⟨i, hi, h⟩ := ofO_ok h
        obtain ⟨j, hj, h⟩ := ofO_ok h
        obtain ⟨c, hc, h⟩ := ofO_ok h
        cases h
        obtain ⟨px, py, rfl, rfl, n1, n2, l1, l2, ne, hw⟩ := par_some (k := k) (k2 := vk) (pt := tp) (pt2 := vp) xe.sc hp
        have i1 : X.N[i]? = some x' := by rw [xe.N]; exact ixOf_get hi
        have i2 : X.N[j]? = some y' := by rw [xe.N]; exact ixOf_get hj
        have hij : i ≠ j := fun z => by rw [z, i2] at i1; cases i1; exact ne rfl
        exact psImp (ps_par xe.calm xe.nd i1 i2 hij (by rw [xe.sc]; exact l1) (by rw [xe.sc]; exact l2) (cAs_ok hf xe ap tk hc) hw rfl) fun _ _ _ => tss_setP ap
      · split at h
        · rename_i x' y' z' hp
          obtain ⟨i, hi, h⟩ := ofO_ok h
          obtain ⟨j, hj, h⟩ := ofO_ok h
          obtain ⟨l, hl, h⟩ := ofO_ok h
          obtain ⟨c, hc, h⟩ := ofO_ok h
          cases h
          obtain ⟨px, py, pz, a', b', c', rfl, rfl, l1, l2, l3, n1, n2, n3, hw⟩ := par3_some (k := k) (k2 := vk) (pt := tp) (pt2 := vp) xe.sc hp
          have i1 : X.N[i]? = some x' := by rw [xe.N]; exact ixOf_get hi
          have i2 : X.N[j]? = some y' := by rw [xe.N]; exact ixOf_get hj
          have i3 : X.N[l]? = some z' := by rw [xe.N]; exact ixOf_get hl
          have hij : i ≠ j := fun z => by rw [z, i2] at i1; cases i1; exact n1 rfl
          have hil : i ≠ l := fun z => by rw [z, i3] at i1; cases i1; exact n2 rfl
          have hjl : j ≠ l := fun z => by rw [z, i3] at i2; cases i2; exact n3 rfl
          exact psImp (ps_par3 xe.calm xe.nd i1 i2 i3 hij hil hjl (by rw [xe.sc]; exact l1) (by rw [xe.sc]; exact l2) (by rw [xe.sc]; exact l3) (cAs_ok hf xe ap tk hc) hw rfl) fun _ _ _ => tss_setP3 ap
        · obtain ⟨hfo, h⟩ := ifSome h
          obtain ⟨is, hi, h⟩ := ofO_ok h
          obtain ⟨c, hc, h⟩ := ofO_ok h
          cases h
          obtain ⟨q1, q2, q3⟩ := cTgs_ok xe hi
          exact psImp (ps_asg ((hf _ _ hc).ev xe ap tk) (pg_tup xe.calm q1 q2 q3) rfl (folded_none hfo) rfl) fun _ _ _ => tss_setT xe.K ap
    · rename_i hnt
      obtain ⟨is, hi, h⟩ := ofO_ok h
      obtain ⟨c, hc, h⟩ := ofO_ok h
      cases h
      obtain ⟨q1, q2, q3⟩ := cTgs_ok xe hi
      have hw : swappedStores [.Tuple ts k tp] e X.env = pure none := by
        cases e <;> first | rfl | exact absurd rfl (hnt _ _ _)
      have hs : swapsWithSole [.Tuple ts k tp] e pos.line X.env = pure false := by
        cases e <;> rfl
      exact psImp (ps_asg ((hf _ _ hc).ev xe ap tk) (pg_tup xe.calm q1 q2 q3) hs hw rfl) fun _ _ _ => tss_setT xe.K ap
theorem stepS_ok {rec : SS → Stmt → Option CS} {fe : SS → Expr → Option CE} (hr : RecS G F rec) (hf : ∀ E e c, fe E e = some c → Fit G F E.toSE e c) (hcomp : ∀ (E : SS) {elt : Expr} {gs : List Comprehension} {scope : Scope} {cp : Pos} {c : CE}, fe E (.ListComp elt gs scope cp) = some c → ∀ (X : Cx) (Wx : WX) (A : Amb), EX X G F E.toSE → APin A E.pin → Takes X Wx →
    ∀ {i : Nat} {y : Str} {py spos : Pos}, X.N[i]? = some y → X.env.scope.names.lookup y = some .local → swapsWith (.ListComp elt gs scope cp) (some (.Name y py)) spos.line X.env = pure true → PS X (.Assign [.Name y py] (.ListComp elt gs scope cp) spos) (TSs G A Wx (evS F E.pin (.set i c)))) : RecS G F (stepS rec fe) := by
  intro E st s h
  unfold stepS at h
  split at h
  · cases h
    exact fun X Wx x tk => psA fun A ap => psImp ps_doc fun _ _ _ => tss_pass
  · cases h
    exact fun X Wx x tk => psA fun A ap => psImp ps_pass fun _ _ _ => tss_pass
  · obtain ⟨hn, h⟩ := ifSome h
    obtain ⟨c, hc, h⟩ := ofO_ok h
    cases h
    exact fun X Wx x tk => psA fun A ap => psImp (ps_expr ((hf _ _ _ hc).ev x.toEX ap tk) (swaps_of hn)) fun _ _ _ => tss_ex
  · rename_i y py e pos
    obtain ⟨i, hi, h⟩ := ofO_ok h
    obtain ⟨c, hc, h⟩ := ofO_ok h
    intro X Wx x tk
    refine psA fun A ap => ?_
    have xe := x.toEX
    have gen : swapsWith e (some (.Name y py)) pos.line X.env = pure false → PS X (.Assign [.Name y py] e pos) (TSs G A Wx (evS F E.pin (.set i c))) := fun hs =>
      psImp (ps_asg ((hf _ _ _ hc).ev xe ap tk) (cTgN_ok xe hi).1 hs (by cases e <;> rfl) rfl) fun _ _ _ => tss_set ap
    split at h
    · rename_i elt gs scope cp _ _
      by_cases hb : swapB E.sc scope y py cp = false
      · rw [if_pos hb] at h
        cases h
        exact gen (by rw [swaps_comp, xe.sc, hb])
      · rw [if_neg hb] at h
        obtain ⟨hl, h⟩ := ifSome h
        cases h
        have hb : swapB E.sc scope y py cp = true := by simpa using hb
        unfold cTgN at hi
        obtain ⟨_, hi⟩ := ifSome hi
        exact hcomp E hc X Wx A xe ap tk (by rw [xe.N]; exact ixOf_get hi) (by rw [xe.sc]; exact hl) (by rw [swaps_comp, xe.sc, hb])
    · obtain ⟨hn, h⟩ := ifSome h
      cases h
      exact gen (swaps_of hn)
  · exact cAsgT_ok (fun e c => hf _ e c) h
  · rename_i y yp ix sp e pos
    obtain ⟨hn, h⟩ := ifSome h
    split at h
    · cases h
    · rename_i hix
      obtain ⟨i, hi, h⟩ := ofO_ok h
      obtain ⟨ci, h1, h⟩ := ofO_ok h
      obtain ⟨c, hc, h⟩ := ofO_ok h
      cases h
      intro X Wx x tk
      refine psA fun A ap => ?_
      have xe := x.toEX
      obtain ⟨s1, s2, s3, s4⟩ := xe.slot hi
      have pg : PG X (.Subscript (.Name y yp) ix sp) (gSub (TAr G A Wx F (.v i)) (TEv G A Wx F ci) rSetL) := pg_sub (peVa s1 s2 s3 s4) ((hf _ _ _ h1).ev xe ap tk) set_list (fun v => by
        cases ix <;> first | rfl | exact absurd rfl (hix _ _ _ _))
      exact psImp (ps_asg ((hf _ _ _ hc).ev xe ap tk) pg (by cases e <;> rfl) (by cases e <;> rfl) rfl) fun _ _ _ => tss_setI
  · obtain ⟨cc, h1, h⟩ := ofO_ok h
    obtain ⟨ca, h2, h⟩ := ofO_ok h
    obtain ⟨cb, h3, h⟩ := ofO_ok h
    cases h
    exact fun X Wx x tk => psA fun A ap => psImp (ps_if ((hf _ _ _ h1).ts x.toEX ap tk) (cBs_ok hr h2 X Wx x tk) (cBs_ok hr h3 X Wx x tk)) fun _ _ _ => tss_iff ap
  · obtain ⟨cc, h1, h⟩ := ofO_ok h
    obtain ⟨cb, h2, h⟩ := ofO_ok h
    cases h
    exact fun X Wx x tk => psA fun A ap => psImp (ps_while x.po ((hf _ _ _ h1).ts x.toEX ap tk) (cBs_ok hr h2 X Wx x tk)) fun _ _ _ => tss_whl ap
  · obtain ⟨t, h1, h⟩ := ofO_ok h
    obtain ⟨ci, h2, h⟩ := ofO_ok h
    obtain ⟨cb, h3, h⟩ := ofO_ok h
    obtain ⟨hn, h⟩ := ifSome h
    cases h
    intro X Wx x tk
    refine psA fun A ap => ?_
    have gt := cTg_ok x.toEX (is := t.1) (tup := t.2) h1
    exact psImp (ps_for x.po x.calm (cI_ok (fun e c => hf _ e c) h2 gt.2 x.toEX ap tk) gt.1 (cBs_ok hr h3 X Wx x tk) (notSet_folded hn)) fun _ _ _ => tss_for x.K ap
  · obtain ⟨c, h1, h⟩ := ofO_ok h
    cases h
    exact fun X Wx x tk => psA fun A ap => psImp (ps_ret ((hf _ _ _ h1).ev x.toEX ap tk)) fun _ _ _ => tss_ret
  · cases h
    exact fun X Wx x tk => psA fun A ap => psImp ps_retN fun D σ H h => by
      have := tss_ret h
      exact tevK (v := .non) (fun _ _ => by unfold Dat; rfl) this
  · rename_i c cp a cp2 rp
    obtain ⟨⟨hg, hn⟩, h⟩ := ifSome h
    split at h
    · rename_i n hx
      obtain ⟨ca, h1, h⟩ := ofO_ok h
      cases h
      intro X Wx x tk
      refine psA fun A ap => ?_
      obtain ⟨⟨g1, g2, g3⟩, g4⟩ := x.toEX.gl hg
      obtain ⟨C, R⟩ := x.r1 c n g4 hx
      exact psRaise1 R x.calm g1 tk ((hf _ _ _ h1).ev x.toEX ap tk) g2 (star_cons hn) rfl
    · rename_i hx
      split at h
      · rename_i m j p2
        cases h
        intro X Wx x tk
        refine psA fun A ap => ?_
        obtain ⟨⟨g1, g2, g3⟩, g4⟩ := x.toEX.gl hg
        obtain ⟨C, R⟩ := x.r0 c g4 hx
        obtain ⟨B, newId, initId, bm, e1, e2⟩ := R.ex
        exact psRaise0 R.cls x.calm tk (pmk_own e1 e2 R.mg R.kp (raises_own R.sb R.ty) g1 g2)
      · cases h
  · rename_i b c np n y py n' np' ap' hp tp
    obtain ⟨⟨hg, rfl, l1, l2, ok⟩, h⟩ := ifSome h
    obtain ⟨cb, h1, h⟩ := ofO_ok h
    obtain ⟨i, hi, h⟩ := ofO_ok h
    obtain ⟨j, hj, h⟩ := ofO_ok h
    cases h
    intro X Wx x tk
    refine psA fun A ap => ?_
    obtain ⟨⟨g1, g2, g3⟩, g4⟩ := x.toEX.gl hg
    obtain ⟨C, c1, c2⟩ := x.sub c g4
    have i1 : X.N[i]? = some n' := by rw [x.N]; exact ixOf_get hi
    have j1 : X.N[j]? = some y := by rw [x.N]; exact ixOf_get hj
    have l1' : X.env.scope.names.lookup n' = some .local := by rw [x.sc]; exact l1
    have l2' : X.env.scope.names.lookup y = some .local := by rw [x.sc]; exact l2
    obtain ⟨o1, o2, _⟩ := okName_db ok
    refine psImp (ps_try_asK (tb := fun W => TSa G W E.pin (evB F E.pin cb)) (ts := fun _ _ _ => tAsg (tVar i) (gName j)) x.stk x.fr x.nd i1 l1' ⟨g1, g2, .inl c1⟩ tk (fun W pn xe tk' po => cBs_ok hr h1 _ W (x.tr po) tk') (fun a oe cls d pn hz hf => ?_)) fun D σ H q => tss_tryAs ap c2 q
    exact pssImp (pss_cons (ps_set (X := X.suite a ((a, oe) :: pn)) x.nd j1 (.inl l2') (pe_var (X := X.suite a ((a, oe) :: pn)) i1 (.inl l1') o1 o2) rfl (.inr l2')) pss_nil) fun D σ H q => q
  · rename_i b c np n y py s ck cp n1 np1 f ap1 tk1 tp1 p1 isi q n2 np2 f2 ap2 bl bq cp2 y2 py2 nk npp p2 p3 hp tp
    obtain ⟨hall, h6⟩ := ifSome h
    clear h
    obtain ⟨cb, h1, h7⟩ := ofO_ok h6
    obtain ⟨i, hi, h8⟩ := ofO_ok h7
    obtain ⟨j, hj, h9⟩ := ofO_ok h8
    cases h9
    obtain ⟨hg, ⟨rfl, rfl, rfl, rfl⟩, ⟨rfl, rfl, hb1, hb2⟩, l1, l2, ok, hfl⟩ := hall
    intro X Wx x tk
    refine psA fun A ap => ?_
    obtain ⟨⟨g1, g2, g3⟩, g4⟩ := x.toEX.gl hg
    obtain ⟨⟨a1, a2, a3⟩, a4⟩ := x.toEX.gl hb1
    obtain ⟨⟨b1, b2, b3⟩, b4⟩ := x.toEX.gl hb2
    obtain ⟨C, c1, c2⟩ := x.sub c g4
    obtain ⟨o1, o2, _⟩ := okName_db ok
    have i1 := ixOf_get hi
    rw [← x.N] at i1
    have j1 := ixOf_get hj
    rw [← x.N] at j1
    have l1' := l1
    rw [← x.sc] at l1'
    have l2' := l2
    rw [← x.sc] at l2'
    exact psImp (ps_try_asK (tb := fun W => TSa G W E.pin (evB F E.pin cb)) (ts := tHand X.K i j s _) x.stk x.fr x.nd i1 l1' ⟨g1, g2, .inl c1⟩ tk (fun W pn xe tk' po => cBs_ok hr h1 _ W (x.tr po) tk') (fun a oe cls d pn hz hf => ps_hand hz hf x.nd i1 j1 l1' l2' o1 o2 a1 (x.blt _ a4) b1 (x.blt _ b4))) fun D σ H q => tss_tryRd x.K x.exc (x.fld _ hfl) ap c2 q
  · rename_i b c np k kp hp tp
    obtain ⟨hg, h⟩ := ifSome h
    obtain ⟨d, hd, h⟩ := ofO_ok h
    obtain ⟨cb, h1, h⟩ := ofO_ok h
    cases h
    intro X Wx x tk
    refine psA fun A ap => ?_
    obtain ⟨⟨g1, g2, g3⟩, g4⟩ := x.toEX.gl hg
    obtain ⟨C, c1, c2⟩ := x.sub c g4
    refine psImp (ps_try_only (tb := fun W => TSa G W E.pin (evB F E.pin cb)) (ts := fun _ _ _ => TSa G Wx E.pin (evB F E.pin (.cons (.ret (.k d)) .nil))) x.stk x.fr ⟨g1, g2, .inl c1⟩ tk (fun W pn xe tk' po => cBs_ok hr h1 _ W (x.tr po) tk') (fun a oe cls dd pn hz hf => ?_)) fun D σ H q => tss_tryOnly ap c2 q
    obtain ⟨v, k1, k2, _, _⟩ := kOf_ok (G := G) (X := X.suite a ((a, oe) :: pn)) hd
    have hp : ∀ A, APin A E.pin → PE (X.suite a ((a, oe) :: pn)) k (TEv G A Wx F (.k d)) := fun A _ => peImp k1 fun _ _ _ => tevK k2
    exact pssImp (pss_cons (psA fun A' ap' => psImp (ps_ret (hp A' ap')) fun _ _ _ => tss_ret) (pssImp pss_nil fun _ _ _ => tsa_nil)) fun _ _ _ => tsa_cons
  · cases h
end
end Ev

set_option Elab.async false
set_option linter.all false
set_option maxRecDepth 100000
set_option maxHeartbeats 8000000
namespace Ev
open PySem PySem.Spec PyProof.Rows L2
section
variable {G : Gm} {F : Fe} {E : SS} {X : Cx} {Wx : WX}
theorem cE_comp : ∀ (m : Nat) (E : SS) {elt : Expr} {gs : List Comprehension} {scope : Scope} {cp : Pos} {c : CE}, cE m E.toSE (.ListComp elt gs scope cp) = some c → ∀ (X : Cx) (Wx : WX) (A : Amb), EX X G F E.toSE → APin A E.pin → Takes X Wx →
    ∀ {i : Nat} {y : Str} {py spos : Pos}, X.N[i]? = some y → X.env.scope.names.lookup y = some .local → swapsWith (.ListComp elt gs scope cp) (some (.Name y py)) spos.line X.env = pure true → PS X (.Assign [.Name y py] (.ListComp elt gs scope cp) spos) (TSs G A Wx (evS F E.pin (.set i c)))
  | 0, _, _, _, _, _, _, h => by cases h
  | m + 1, E, elt, gs, scope, cp, c, h => by
    intro X Wx A x ap tk i y py spos hy hl hsw
    have h : stepE (cE m) E.toSE (.ListComp elt gs scope cp) = some c := h
    have hr := cE_ok (G := G) (F := F) m
    unfold stepE at h
    split at h
    all_goals first
      | (rename_i heq; cases heq; done)
      | skip
    · rename_i elt' tg it ifs scope' p heq
      cases heq
      obtain ⟨t, h1, h⟩ := ofO_ok h
      obtain ⟨ci, h2, h⟩ := ofO_ok h
      obtain ⟨⟨k1, k2, k3, k4, k5⟩, h⟩ := ifSome h
      split at h
      · obtain ⟨ce, h3, h⟩ := ofO_ok h
        cases h
        exact (comp_parts hr x ap tk h1 h2 k1 k2 k3 k4 k5 (.inl ⟨rfl, rfl⟩) h3).2 hy hl hsw
      · obtain ⟨cc, h4, h⟩ := ofO_ok h
        obtain ⟨ce, h3, h⟩ := ofO_ok h
        cases h
        exact (comp_parts hr x ap tk h1 h2 k1 k2 k3 k4 k5 (.inr ⟨_, rfl, h4⟩) h3).2 hy hl hsw
      · cases h
    · cases h
theorem cS_ok (m : Nat) : ∀ n, RecS G F (cS m n)
  | 0 => fun _ _ _ h => by cases h
  | n + 1 => stepS_ok (cS_ok m n) (fun E e c h => cE_ok m E.toSE e c h) (fun E {_ _ _ _ _} h => cE_comp m E h)
end
theorem start_get {N : List Str} {vs : List V} {i : Nat} {v : V} (h : vs[i]? = some v) : (start N vs)[i]? = some (some v) := by
  unfold L2.start
  have hl := lt_of_get h
  rw [List.getElem?_append_left (by simpa using hl), List.getElem?_map, h]
  rfl
theorem outs_get {d : Def} {g : Sg} {i : Nat} {w : W} (h : (outsOf d g)[i]? = some w) : w = outOf d.pin g i := by
  unfold outsOf at h
  rw [List.getElem?_map] at h
  cases e : (List.range d.np)[i]? with
  | none => rw [e] at h; cases h
  | some j =>
    rw [e] at h
    cases h
    rw [List.getElem?_range] at e
    · cases e; rfl
    · have := lt_of_get e
      simpa using this
section
variable {G : Gm} {F : Fe} {E : SS}
/-- where a def stands -/
structure DX (P : Program) (w : World) (K : PySem.W.Frag) (mg : Str → Option Value) (base : Heap) (G : Gm) (F : Fe) (E : SS) (k : Nat) : Prop where
  sx : ∀ (X : Cx), X.prog = P → X.w = w → X.K = K → X.mg = mg → X.base = base → Room k X.A → X.N = E.N → X.env.scope = E.sc → X.calm = true → X.stack = X.env :: X.outer → X.env.frame = some X.env.locals → PassesOwn (model X.prog X.w) X.A X.env X.xe → (∀ x, X.fn x = true) → X.N.Nodup → SX X G F E
theorem def_ok {P : Program} {w : World} {K : PySem.W.Frag} {mg : Str → Option Value} {base : Heap} {k m n : Nat} {x qual : Str} {st : Stmt} {f : Addr} {fd : FuncData} {ps : List Str} {b : CB} {np : Nat} (FN : Fun K x qual st f fd) (S : FnScope E.N ps (defScope st)) (hsc : E.sc = defScope st) (hnp : ps.length = np)
    (D : DX P w K mg base G F E k) (hc : cBs (cS m n) E (defBody st) = some b) : FnOk P w K mg base (L2.CX P w) (k + 1) f fd ps (spF G (runDef F ⟨np, E.N.length, E.pin, b⟩)) := by
  have len : ∀ vs H Q E', spF G (runDef F ⟨np, E.N.length, E.pin, b⟩) vs H Q E' → vs.length = ps.length := fun vs H Q E' h => by
    obtain ⟨ws, ω, hl, _, _, h⟩ := h
    unfold runDef at h
    by_cases q : ws.length = np
    · rw [hl, q, hnp]
    · rw [if_neg q] at h; exact h.elim
  refine Fun.okX FN S len fun cdv A outer s H vs Q E' hr hsp => ?_
  have hvl := len _ _ _ _ hsp
  obtain ⟨ws, ω, hl, hws, hdom, h⟩ := hsp
  unfold runDef at h
  have q : ws.length = np := by rw [← hl, hvl, hnp]
  rw [if_pos q] at h
  let X := cxOf (L2.CX P w) P w K mg base E.N qual (defScope st) f cdv A outer s H E'
  let Wx : WX := fun cls d _ H => E' cls d H
  have sx : SX X G F E := D.sx X rfl rfl rfl rfl rfl hr rfl hsc.symm rfl rfl rfl (passes_of rfl) (fun _ => rfl) S.nd
  have tk : Takes X Wx := takes_of rfl rfl rfl rfl
  refine ⟨TSa G Wx E.pin (evB F E.pin b), cBs_ok (cS_ok m n) hc X Wx sx tk, ?_⟩
  let pins : List (Nat × V) := E.pin.filterMap fun i => (vs[i]?).map fun v => (i, v)
  have hpin : ∀ p ∈ pins, p.1 ∈ E.pin ∧ vs[p.1]? = some p.2 := fun p hp => by
    obtain ⟨i, hi, e⟩ := List.mem_filterMap.mp hp
    obtain ⟨v, hv, rfl⟩ := Option.map_eq_some_iff.mp e
    exact ⟨hi, hv⟩
  have hpin2 : ∀ i v, i ∈ E.pin → vs[i]? = some v → (i, v) ∈ pins := fun i v hi hv => List.mem_filterMap.mpr ⟨i, hi, by rw [hv]; rfl⟩
  let Am : Amb := ⟨H, ω, pins⟩
  have hN : vs.length ≤ E.N.length := by
    have := congrArg List.length S.pre
    rw [List.length_take] at this
    omega
  have S0 : Stt G Am (start E.N vs) (ws.map some ++ List.replicate (E.N.length - np) none) [] H ω := by
    refine ⟨?_, fun i w' e => ?_, fun k v w t e => by simp at e, fun k k' v v' w w' i e => by simp at e, fun p hp => start_get (hpin p hp).2, hdom, fun a o ho _ => ho, fun a ha => ha, fun a _ ha => ha⟩
    · unfold L2.start
      simp only [List.length_append, List.length_map, List.length_replicate]
      omega
    · rcases getApp e with ⟨h1, h2⟩ | ⟨h1, h2⟩
      · rw [List.getElem?_map] at h2
        cases e2 : ws[i]? with
        | none => rw [e2] at h2; cases h2
        | some w2 =>
          rw [e2] at h2
          cases h2
          obtain ⟨v, hv, en⟩ := hws i w' e2
          exact ⟨v, start_get hv, en⟩
      · rw [List.getElem?_replicate] at h2
        split at h2 <;> cases h2
  have aft : ∀ {σ' : L2.St} {g' : Sg} {τ : Tm} {H' : Hp} {ω' : Om}, Stt G Am σ' g' τ H' ω' → After H ω H' ω' := fun S' => ⟨fun a o h1 h2 => S'.fr a o h1 h2, fun a h1 => S'.fx a h1, fun a h1 h2 => S'.fn a h1 h2⟩
  have outs : ∀ {σ' : L2.St} {g' : Sg} {τ : Tm} {H' : Hp} {ω' : Om}, Stt G Am σ' g' τ H' ω' → ∀ (i : Nat) (wo : W), (outsOf ⟨np, E.N.length, E.pin, b⟩ g')[i]? = some wo → ∃ u, vs[i]? = some u ∧ EntW G ω' H' (.s i) wo u := fun {σ' g' τ H' ω'} S' i wo e => by
    have hi : i < vs.length := by
      have := lt_of_get e
      unfold outsOf at this
      simp at this
      omega
    have hv : vs[i]? = some vs[i] := List.getElem?_eq_getElem hi
    refine ⟨vs[i], hv, ?_⟩
    have := outs_get e
    subst this
    unfold outOf
    by_cases hp : i ∈ E.pin
    · rw [if_pos hp]
      split
      · rename_i w' e2
        obtain ⟨v, h1, h2⟩ := S'.slot i _ e2
        have := S'.pin _ (hpin2 i _ hp hv)
        rw [h1] at this
        cases this
        exact h2
      · trivial
    · rw [if_neg hp]
      trivial
  refine ⟨Am, fun p hp => (hpin p hp).1, _, [], ω, S0, ?_⟩
  have e1 : (⟨np, E.N.length, E.pin, b⟩ : Def).nn - (⟨np, E.N.length, E.pin, b⟩ : Def).np = E.N.length - np := rfl
  cases e : evB F E.pin b (ws.map some ++ List.replicate (E.N.length - np) none) with
  | none => simp only [e] at h
  | some r =>
    simp only [e] at h
    cases r with
    | nx g =>
      intro σ' H' ω' S'
      exact h .non H' ω' (aft S') (by show Dat _ _ _ _ _; unfold Dat; rfl) (outs S')
    | ret w' g =>
      intro σ' v H' ω' S'
      exact h v H' ω' (aft S') S'.last.1 (outs S')
    | exc x g =>
      intro σ' cls d H' ω' S' ex
      exact h cls d H' ω' (aft S') ex (outs S')
end
end Ev

set_option Elab.async false
set_option linter.all false
set_option maxRecDepth 100000
set_option maxHeartbeats 4000000
namespace Ev
open PySem PySem.Spec PyProof.Rows L2
/-- the head's look: the defs and facts, and a check of one's own -/
def obsX (n : Nat) (fa : List He.Fa) (fn : List He.DefD) (chk : PySem.W.Frag → Bool) (g : Addr → Option Obj) : He.AlD × Bool := (He.obsD fa fn (He.frG g (cStatics :: He.asD g n)), chk (He.frG g (cStatics :: He.asD g n)))
def hookX (n : Nat) (fa : List He.Fa) (fn : List He.DefD) (chk : PySem.W.Frag → Bool) : PySem.W.Hook where
  α := He.AlD × Bool
  obs := fun s => obsX n fa fn chk s.heap.get?
  val := fun _ => (He.valD fn, true)
  says := fun _ h => ∃ K : PySem.W.Frag, K.In h ∧ He.SaysD fa fn K ∧ chk K = true
  of := fun _ _ e => ⟨_, He.frG_in, congrArg Prod.fst e, congrArg Prod.snd e⟩
  keeps := fun _ _ _ ⟨K, hK, c⟩ k => ⟨K, PySem.W.Frag.In.keeps hK k, c⟩
theorem obsX_eq {n : Nat} {fa : List He.Fa} {fn : List He.DefD} {chk : PySem.W.Frag → Bool} {g : Addr → Option Obj} {s : Shared} (h : ∀ a, g a = s.heap.get? a) : obsX n fa fn chk g = (hookX n fa fn chk).obs s := by
  have e : g = s.heap.get? := funext h
  rw [e] <;> rfl
open He in
/-- an own exception's class, asked and caught -/
def excB (K : PySem.W.Frag) (x : Str) : Bool := let C := ga K x
  eqO (PySem.W.findIn K (.ref C) "__getattribute__") (some (some (.builtin "BaseException.__getattribute__"))) && eqO (PySem.W.findIn K (.ref C) "__getattr__") (some none) && decide (PySem.W.subIn K (.ref C) (.type "BaseException") = some true) && PySem.W.hasDictIn K C
    && eqO (PySem.W.findIn K (.ref C) "__class__") (some (some (.builtin "object.__class__"))) && eqO (PySem.W.specialIn K (.builtin "object.__class__") "__get__") (some (some (.builtin "getset_descriptor.__get__")))
    && decide (PySem.W.takesIn K (.builtin "object.__class__") = some true) && decide (PySem.W.mroIn K C (.type "object") = some true)
theorem excB_ok {K : PySem.W.Frag} {x : Str} (h : excB K x = true) : ExcC K (He.ga K x) ∧ XfC K (He.ga K x) := by
  unfold excB at h
  simp only [Bool.and_eq_true] at h
  obtain ⟨⟨⟨⟨⟨⟨⟨h1, h2⟩, h3⟩, h4⟩, h5⟩, h6⟩, h7⟩, h8⟩ := h
  exact ⟨⟨He.eqO_ok h1, He.eqO_ok h2, of_decide_eq_true h3, h4, He.eqO_ok h5, He.eqO_ok h6, of_decide_eq_true h7, of_decide_eq_true h8⟩, ⟨He.eqO_ok h1, He.eqO_ok h2, of_decide_eq_true h3, h4⟩⟩
/-- a class that is made by its own __init__ -/
def oexB (K : PySem.W.Frag) (C : Addr) : Bool := (match K.lookup C with
  | some ⟨.type "type", _, .cls cd, sl⟩ => (match cd.mro, sl.toList with
    | .ref C' :: bm, [_, _, _, _, some (.builtin n), _] => C' == C && n == "ValueError.__new__" && !cd.hasDel && cd.hasDict && PySem.HandSPX.refsVE bm
    | _, _ => false)
  | _ => false) && He.eqO (PySem.W.findIn K (.ref C) "__setattr__") (some (some (.builtin "object.__setattr__"))) && decide (PySem.W.subIn K (.ref C) (.type "BaseException") = some true) && decide (PySem.W.typeIn K (.ref C) = some (.type "type")) && PySem.W.keepIn K (.ref C)
theorem oexB_ok {K : PySem.W.Frag} {C : Addr} (h : oexB K C = true) : OexC K C := by
  unfold oexB at h
  simp only [Bool.and_eq_true] at h
  obtain ⟨⟨⟨⟨q, h2⟩, h3⟩, h4⟩, h5⟩ := h
  refine ⟨?_, He.eqO_ok h2, of_decide_eq_true h3, of_decide_eq_true h4, h5⟩
  split at q
  · rename_i dd cd sl ho
    split at q
    · rename_i C' bm k0 k1 k2 k3 n k5 hm hs
      simp only [Bool.and_eq_true, beq_iff_eq, Bool.not_eq_true'] at q
      obtain ⟨⟨⟨⟨rfl, rfl⟩, hdel⟩, hdc⟩, ht⟩ := q
      obtain ⟨nm, bs, mro, ns, qn, hd, sn, sub, ab, col, del⟩ := cd
      dsimp only at hm hdel hdc
      subst hm hdel hdc
      have hsl : sl = #[k0, k1, k2, k3, some (.builtin "ValueError.__new__"), k5] := by
        obtain ⟨l⟩ := sl
        simp only at hs
        rw [hs]
      subst hsl
      exact ⟨_, _, _, _, _, _, _, _, _, _, _, _, _, _, _, ho, ht⟩
    · cases q
  · cases q
end Ev

set_option Elab.async false
set_option linter.all false
set_option maxRecDepth 100000
set_option maxHeartbeats 4000000
namespace Ev
open PySem PySem.Spec PyProof.Rows L2 ClX
/-- what names stand for, as the written part says -/
def gmOf (K : PySem.W.Frag) (cs fs : List Str) : Gm := ⟨K, fun c => if cs.contains c = true then some (He.ga K c) else none, fun f => if fs.contains f = true then some (He.ga K f) else none⟩
theorem gm_cls {K : PySem.W.Frag} {cs fs : List Str} {c : Str} {C : Addr} (h : (gmOf K cs fs).cls c = some C) : c ∈ cs ∧ C = He.ga K c := by
  have h : (if cs.contains c = true then some (He.ga K c) else none) = some C := h
  obtain ⟨h1, h⟩ := ifSome h
  cases h
  exact ⟨by simpa using h1, rfl⟩
theorem gm_fns {K : PySem.W.Frag} {cs fs : List Str} {c : Str} {C : Addr} (h : (gmOf K cs fs).fns c = some C) : c ∈ fs ∧ C = He.ga K c := by
  have h : (if fs.contains c = true then some (He.ga K c) else none) = some C := h
  obtain ⟨h1, h⟩ := ifSome h
  cases h
  exact ⟨by simpa using h1, rfl⟩
/-- every class of the table against each -/
def subB (K : PySem.W.Frag) (cs : List Str) (c' : Str) : Bool := cs.all fun c => match subX c c' with
  | some b => decide (PySem.W.exmOne K (.ref (He.ga K c)) (.ref (He.ga K c')) = some b) && decide (PySem.W.kitOne K (.ref (He.ga K c)) (.ref (He.ga K c')) = some b)
  | none => true
def subVB (K : PySem.W.Frag) (cs : List Str) : Bool := cs.all fun c => match subX c "ValueError" with
  | some b => decide (PySem.W.kitOne K (.ref (He.ga K c)) (.type "ValueError") = some b)
  | none => true
def excsB (K : PySem.W.Frag) (cs : List Str) : Bool := cs.all fun c => !leaves.contains c || excB K c
def fldB (K : PySem.W.Frag) (cs : List Str) (n : Str) : Bool := cs.all fun c => (!leaves.contains c || He.eqO (PySem.W.findIn K (.ref (He.ga K c)) n) (some none)) && !insC.contains c
section
variable {K : PySem.W.Frag} {cs fs : List Str}
theorem subB_ok {c' : Str} (h : subB K cs c' = true) : IscOk K (gmOf K cs fs) c' (.ref (He.ga K c')) ∧ SubOk K (gmOf K cs fs) c' (.ref (He.ga K c')) := by
  have key : ∀ c b C, subX c c' = some b → (gmOf K cs fs).cls c = some C → PySem.W.exmOne K (.ref C) (.ref (He.ga K c')) = some b ∧ PySem.W.kitOne K (.ref C) (.ref (He.ga K c')) = some b := fun c b C h1 h2 => by
    obtain ⟨h3, rfl⟩ := gm_cls h2
    have := List.all_eq_true.mp h c h3
    rw [h1] at this
    obtain ⟨q1, q2⟩ := Bool.and_eq_true_iff.mp this
    exact ⟨of_decide_eq_true q1, of_decide_eq_true q2⟩
  exact ⟨fun c b C h1 h2 => (key c b C h1 h2).2, fun c b C h1 h2 => (key c b C h1 h2).1⟩
theorem subVB_ok (h : subVB K cs = true) : IscOk K (gmOf K cs fs) "ValueError" (.type "ValueError") := fun c b C h1 h2 => by
  obtain ⟨h3, rfl⟩ := gm_cls h2
  have := List.all_eq_true.mp h c h3
  rw [h1] at this
  exact of_decide_eq_true this
theorem excsB_ok (h : excsB K cs = true) : ExcOk K (gmOf K cs fs) := fun c C h1 h2 => by
  obtain ⟨h3, rfl⟩ := gm_cls h2
  have := List.all_eq_true.mp h c h3
  rw [h1] at this
  exact excB_ok (by simpa using this)
theorem fldB_ok {n : Str} (h : fldB K cs n = true) : FldOk K (gmOf K cs fs) n := by
  refine ⟨fun c C h1 h2 => ?_, fun c C h1 h2 => ?_⟩
  · obtain ⟨h3, rfl⟩ := gm_cls h2
    have := (Bool.and_eq_true_iff.mp (List.all_eq_true.mp h c h3)).1
    rw [h1] at this
    exact He.eqO_ok (by simpa using this)
  · obtain ⟨h3, rfl⟩ := gm_cls h2
    have := (Bool.and_eq_true_iff.mp (List.all_eq_true.mp h c h3)).2
    rw [h1] at this
    cases this
/-- the base class's own __init__, asked by the class -/
def creadB (K : PySem.W.Frag) (C : Addr) : Bool := PySem.W.readsIn K C (.type "type") && decide (PySem.W.specialIn K (.ref C) "__getattribute__" = some (some (.builtin "type.__getattribute__"))) && (match PySem.W.findCls K (.ref C) (.type "type") "__init__" with
  | some (.val (.builtin i)) => i == "ValueError.__init__"
  | _ => false)
theorem creadB_ok {C : Addr} (h : creadB K C = true) : CRead K C (.type "type") ∧ PySem.W.findCls K (.ref C) (.type "type") "__init__" = some (.val (.builtin "ValueError.__init__")) := by
  unfold creadB at h
  simp only [Bool.and_eq_true] at h
  obtain ⟨⟨h1, h2⟩, h3⟩ := h
  refine ⟨⟨h1, of_decide_eq_true h2⟩, ?_⟩
  split at h3
  · rename_i i e
    rw [e, eq_of_beq h3]
  · cases h3
end
end Ev

set_option Elab.async false
set_option linter.all false
set_option maxRecDepth 100000
set_option maxHeartbeats 4000000
namespace Ev
open PySem PySem.Spec PyProof.Rows L2 ClX
theorem init_ok {P : Program} {w : World} {K : PySem.W.Frag} {mg : Str → Option Value} {base : Heap} {k : Nat} {x qual : Str} {st : Stmt} {f C0 : Addr} {fd : FuncData} {a b n m : Str} {j : Nat} {p1 p2 p3 p4 p5 p6 p7 p8 p9 p10 : Pos} (FN : Fun K x qual st f fd) (S : FnScope [a, b] [a, b] (defScope st))
    (hb : defBody st = [.Expr (.Call (.Attribute (.Name "CordError" p1) "__init__" p2) [.Name a p3, .Constant (.str m) j p4] [] p5) p6, .Assign [.Attribute (.Name a p7) n p8] (.Name b p9) p10])
    {pl : Env → Sem Bool} (hc : ∀ env : Env, eval (.Call (.Attribute (.Name "CordError" p1) "__init__" p2) [.Name a p3, .Constant (.str m) j p4] [] p5) env = (do
      let ov ← eval (.Name "CordError" p1) env
      standAt p2.atName
      let (f, first) ← holding [ov] (getMethod ov "__init__" (pl env))
      callWith p5 f first (backTo p5 (starEach [.Name a p3, .Constant (.str m) j p4] env)) (backToKw p5 (keywordEach [] env))))
    (R : CRead K C0 (.type "type")) (vV : PySem.W.findCls K (.ref C0) (.type "type") "__init__" = some (.val (.builtin "ValueError.__init__"))) (hm : mg "CordError" = some (.ref C0)) (hg : (defScope st).names.lookup ("CordError" : Str) = some .globalImplicit)
    (la : (defScope st).names.lookup a = some .local) (lb : (defScope st).names.lookup b = some .local) (oka : okName a = true) (okb : okName b = true) : FnOk P w K mg base (L2.CX P w) (k + 1) f fd [a, b] (spI K n) := by
  refine Fun.okX FN S (fun vs H Q E' h => by obtain ⟨_, _, _, rfl, _⟩ := h; rfl) fun cdv A outer s H vs Q E' hr hsp => ?_
  obtain ⟨e, C, y, rfl, T, hno, he, hq⟩ := hsp
  let X := cxOf (L2.CX P w) P w K mg base [a, b] qual (defScope st) f cdv A outer s H E'
  obtain ⟨a1, a2, _⟩ := okName_db oka
  obtain ⟨b1, b2, _⟩ := okName_db okb
  have pa : ∀ p, PE X (.Name a p) (tVar 0) := fun p => pe_var (i := 0) rfl (.inl la) a1 a2
  have pb : ∀ p, PE X (.Name b p) (tVar 1) := fun p => pe_var (i := 1) rfl (.inl lb) b1 b2
  have h1 : PS X (.Expr (.Call (.Attribute (.Name "CordError" p1) "__init__" p2) [.Name a p3, .Constant (.str m) j p4] [] p5) p6) (tDrop (tVeI K (tCons (tVar 0) (tCons (tC (.str m)) tNil)))) :=
    ps_expr (pe_cinit (X := X) hg hm (by decide) R vV (pa_cons (pa p3) (pa_cons pe_str pa_nil rfl) rfl) (hc _) rfl rfl) rfl
  have h2 : PS X (.Assign [.Attribute (.Name a p7) n p8] (.Name b p9) p10) (tOst K n (tVar 0) (tVar 1)) := ps_ost (pa p7) (pb p9) rfl
  rw [hb]
  refine ⟨_, pss_cons h1 (pss_cons h2 pss_nil), ?_⟩
  refine ⟨.ref e, rfl, e, C, [.str m], rfl, by simp, T, he, ?_⟩
  exact ⟨y, rfl, .ref e, rfl, e, C, rfl, T, hno, .inl ⟨he, fun dx h1 h2 => hq dx h1 h2⟩⟩
end Ev

set_option Elab.async false
set_option linter.all false
set_option maxRecDepth 100000
set_option maxHeartbeats 4000000
namespace Ev
open PySem PySem.Spec PyProof.Rows L2 ClX
/-- a def of the table: the statement's place, name, names, parameters, those that stay, the body -/
structure Rw where
  i : Nat
  x : Str
  N : List Str
  np : Nat
  pin : List Nat
  b : CB
  nm : Str
/-- a law's static tables -/
structure Tb where
  body : List Stmt
  gk : List (Str × GK)
  xf : List (Str × Str)
  fl : List Str
  cs : List Str
  vals : List (Str × D)
  fs : List Str
def Tb.st (T : Tb) (r : Rw) : Stmt := T.body.getD r.i (.Pass ⟨0, 0, 0, 0⟩)
def Tb.E (T : Tb) (r : Rw) : SS := { N := r.N, sc := defScope (T.st r), gk := fun x => T.gk.lookup x, pin := r.pin, fc := fun _ => true, fld := fun n => T.fl.contains n, xf := fun x => T.xf.lookup x }
def Tb.gv (T : Tb) : Str → Option D := fun x => match T.vals.lookup x with
  | some d => some d
  | none => if T.fs.contains x = true then some (.fn x) else none
def Rw.df (r : Rw) : Def := ⟨r.np, r.N.length, r.pin, r.b⟩
def Rw.ps (r : Rw) : List Str := r.N.take r.np
/-- what the defs do, the last one ahead -/
noncomputable def semL (gv : Str → Option D) : List Rw → Fe
  | [] => ⟨gv, fun _ => none, fun _ => none, fun _ _ => none⟩
  | r :: l => { semL gv l with fn := fun y => if y = r.x then some (runDef (semL gv l) r.df) else (semL gv l).fn y }
theorem semL_gv {gv : Str → Option D} : ∀ l, (semL gv l).gv = gv
  | [] => rfl
  | _ :: l => semL_gv l
theorem semL_none {gv : Str → Option D} {y : Str} : ∀ {l : List Rw}, y ∉ l.map (·.x) → (semL gv l).fn y = none
  | [], _ => rfl
  | r :: l, h => by
    show (if y = r.x then _ else (semL gv l).fn y) = none
    simp only [List.map_cons, List.mem_cons, not_or] at h
    rw [if_neg h.1]
    exact semL_none h.2
theorem semL_at {gv : Str → Option D} : ∀ {l : List Rw} {i : Nat} {r : Rw}, (l.map (·.x)).Nodup → l[i]? = some r → (semL gv l).fn r.x = some (runDef (semL gv (l.drop (i + 1))) r.df)
  | [], i, r, _, h => by simp at h
  | s :: l, 0, r, _, h => by
    cases h
    show (if s.x = s.x then _ else _) = _
    rw [if_pos rfl]
    rfl
  | s :: l, i + 1, r, nd, h => by
    rw [List.map_cons, List.nodup_cons] at nd
    have hm : r.x ∈ l.map (·.x) := List.mem_map_of_mem (List.mem_of_getElem? (show l[i]? = some r from h))
    show (if r.x = s.x then _ else (semL gv l).fn r.x) = _
    rw [if_neg (fun (z : r.x = s.x) => nd.1 (by rw [← z]; exact hm))]
    exact semL_at nd.2 h
theorem semL_fn {gv : Str → Option D} {l : List Rw} {k i : Nat} {r : Rw} (nd : (l.map (·.x)).Nodup) (hk : k ≤ i) (h : l[i]? = some r) : (semL gv (l.drop k)).fn r.x = some (runDef (semL gv (l.drop (i + 1))) r.df) := by
  have nd' : ((l.drop k).map (·.x)).Nodup := by
    rw [List.map_drop]
    exact List.Nodup.sublist (List.drop_sublist _ _) nd
  have h' : (l.drop k)[i - k]? = some r := by
    rw [List.getElem?_drop, show k + (i - k) = i by omega]
    exact h
  rw [semL_at nd' h', List.drop_drop, show k + (i - k + 1) = i + 1 by omega]
/-- a def's text is as the table says -/
structure RwOk (T : Tb) (r : Rw) : Prop where
  sc : FnScope r.N r.ps (defScope (T.st r))
  comp : cBs (cS 60 12) (T.E r) (defBody (T.st r)) = some r.b
  np : r.np ≤ r.N.length
  bind : ∀ (kV doc pm : Value) (an : Option Addr) (cdv ct : Value) (us : List Value), us.length = r.ps.length → bindArgs (PySem.W.fnOf r.nm r.nm (defArgs (T.st r)) (defBody (T.st r)) (defScope (T.st r)) .none kV doc pm an cdv ct) ⟨us, []⟩ = pure (r.ps.zip us)
/-- an own exception's class with a field, made by its own __init__ -/
structure Ex1 (P : Program) (w : World) (K : PySem.W.Frag) (mg : Str → Option Value) (base : Heap) (G : Gm) (c n : Str) : Prop where
  ex : ∃ C fI fd ps, G.cls c = some C ∧ mg c = some (.ref C) ∧ OexC K C ∧ PySem.W.findIn K (.ref C) n = some none ∧ PySem.W.findIn K (.ref C) "__init__" = some (some (.ref fI)) ∧ PySem.W.typeIn K (.ref fI) = some (.type "function") ∧ FnOk P w K mg base (L2.CX P w) 1 fI fd ps (spI K n) ∧ Binds K fd ps []
/-- what is known of the module's names -/
structure Wf (T : Tb) (P : Program) (w : World) (K : PySem.W.Frag) (mg : Str → Option Value) (base : Heap) (G : Gm) : Prop where
  eK : K = G.K
  blt : ∀ x, T.gk.lookup x = some .blt → mg x = none
  cls : ∀ x, T.gk.lookup x = some .cls → ∃ C, mg x = some (.ref C) ∧ IscOk K G x (.ref C) ∧ SubOk K G x (.ref C)
  gv : ∀ x d, T.gv x = some d → ∃ u v, mg x = some u ∧ RelV v u ∧ ∀ ω H, Dat G ω H d v
  exc : ExcOk K G
  iscV : IscOk K G "ValueError" (.type "ValueError")
  fld : ∀ n, T.fl.contains n = true → FldOk K G n
  r0 : ∀ c, T.gk.lookup c = some .cls → T.xf.lookup c = none → ∃ C, G.cls c = some C ∧ mg c = some (.ref C) ∧ (∃ (B newId initId : String) (bm : List Value), ExcBaseFacts B newId initId bm ∧ PySem.W.excIn K C bm newId = true) ∧ PySem.W.keepIn K (.ref C) = true ∧ PySem.W.subIn K (.ref C) (.type "BaseException") = some true ∧ PySem.W.typeIn K (.ref C) = some (.type "type")
  r1 : ∀ c n, T.gk.lookup c = some .cls → T.xf.lookup c = some n → Ex1 P w K mg base G c n
/-- where the defs stand -/
def At1 (T : Tb) (K : PySem.W.Frag) (mg : Str → Option Value) (G : Gm) (r : Rw) : Prop := ∃ a fd, Fun K r.nm r.nm (T.st r) a fd ∧ mg r.x = some (.ref a) ∧ G.fns r.x = some a
section
variable {T : Tb} {P : Program} {w : World} {K : PySem.W.Frag} {mg : Str → Option Value} {base : Heap} {G : Gm}
/-- what a table's defs keep -/
def FsOk (P : Program) (w : World) (K : PySem.W.Frag) (mg : Str → Option Value) (base : Heap) (G : Gm) (F : Fe) (k : Nat) : Prop := ∀ f sem, F.fn f = some sem → ∃ a fd ps, mg f = some (.ref a) ∧ G.fns f = some a ∧ PySem.W.keepIn K (.ref a) = true ∧ FnOk P w K mg base (L2.CX P w) k a fd ps (spF G sem) ∧ Binds K fd ps []
theorem dx_of (W : Wf T P w K mg base G) {F : Fe} {k : Nat} (hk : 2 ≤ k) (hF : FsOk P w K mg base G F k) (hg : F.gv = T.gv) (r : Rw) : DX P w K mg base G F (T.E r) k := ⟨by
  intro X e1 e2 e3 e4 e5 hr eN eS hc hs hf po hfn nd
  subst e1 e2 e3 e4 e5
  exact {
    N := eN, nd := nd, sc := eS, K := W.eK, calm := hc, un := by have := hr.un; omega
    blt := fun x h => W.blt x h
    cls := fun x h => let ⟨C, h1, h2, _⟩ := W.cls x h; ⟨C, h1, h2⟩
    fns := fun f sem h => let ⟨a, fd, ps, h1, h2, h3, h4, h5⟩ := hF f sem h; ⟨a, h1, h2, ⟨⟨k, fd, ps, h4, hr, h5⟩, h3⟩⟩
    gv := fun x d h => W.gv x d (by rw [hg] at h; exact h)
    exc := W.exc, iscV := W.iscV, fld := fun n h => W.fld n h, fc := fun x _ => hfn x
    stk := hs, fr := hf, po := po
    r0 := fun c h1 h2 => let ⟨C, q1, q2, q3, q4, q5, q6⟩ := W.r0 c h1 h2; ⟨C, q1, q2, q3, q4, q5, q6⟩
    r1 := fun c n h1 h2 => let ⟨C, fI, fd, ps, q1, q2, q3, q4, q5, q6, q7, q8⟩ := (W.r1 c n h1 h2).ex; ⟨C, q1, q2, q3, q4, ⟨fI, 1, fd, ps, q5, q6, q7, hr.mono hk, q8⟩⟩
    sub := fun c h => let ⟨C, h1, _, h3⟩ := W.cls c h; ⟨C, h1, h3⟩ }⟩
theorem semL_ok (W : Wf T P w K mg base G) : ∀ l : List Rw, (∀ r ∈ l, RwOk T r) → (∀ r ∈ l, At1 T K mg G r) → FsOk P w K mg base G (semL T.gv l) (l.length + 2)
  | [], _, _ => fun f sem h => by cases h
  | r :: l, ok, at_ => by
    have ih := semL_ok W l (fun s hs => ok s (List.mem_cons_of_mem _ hs)) (fun s hs => at_ s (List.mem_cons_of_mem _ hs))
    intro f sem h
    have h : (if f = r.x then some (runDef (semL T.gv l) r.df) else (semL T.gv l).fn f) = some sem := h
    by_cases e : f = r.x
    · rw [if_pos e] at h
      cases h
      subst e
      obtain ⟨a, fd, FN, h1, h2⟩ := at_ r List.mem_cons_self
      have o := ok r List.mem_cons_self
      have hl : r.ps.length = r.np := by
        unfold Rw.ps
        rw [List.length_take]
        exact Nat.min_eq_left o.np
      exact ⟨a, fd, r.ps, h1, h2, FN.kp, def_ok (E := T.E r) FN o.sc rfl hl (dx_of W (by omega) ih (semL_gv l) r) o.comp, FN.binds o.bind⟩
    · rw [if_neg e] at h
      obtain ⟨a, fd, ps, h1, h2, h3, h4, h5⟩ := ih f sem h
      exact ⟨a, fd, ps, h1, h2, h3, h4.mono (by simp), h5⟩
end
theorem fun_of {K : PySem.W.Frag} {x qual : Str} {st : Stmt} {f : Addr} {fd : FuncData} (F : FunD K x qual (defArgs st) (defBody st) (defScope st) [] [] f fd) : Fun K x qual st f fd := by
  obtain ⟨oc, od, dV, kV, doc, pm, an, cdv, ct, osl, rfl, lk, hcd, hD, hK⟩ := F.ex
  rcases hD with ⟨_, rfl⟩ | ⟨e, _⟩
  · exact fun_mk lk hcd F.kp
  · exact absurd rfl e
mutual
/-- a value as the written part has it -/
def datB (K : PySem.W.Frag) : D → Value → Bool
  | .int i, .int j _ => decide (j = i)
  | .str x, .str y _ => decide (y = x)
  | .tup ds, .ref a => (match K.lookup a with
    | some ⟨.type c, _, .seq its _, _⟩ => decide (c = "tuple") && (decide (its.size ≤ sizeLine) && datBs K ds its.toList)
    | _ => false)
  | _, _ => false
def datBs (K : PySem.W.Frag) : List D → List Value → Bool
  | [], [] => true
  | d :: ds, v :: vs => datB K d v && datBs K ds vs
  | _, _ => false
end
section
variable {G : Gm}
mutual
theorem datB_ok : ∀ (d : D) (u : Value), datB G.K d u = true → ∃ v, RelV v u ∧ ∀ ω H, Dat G ω H d v
  | .int i, u, h => by
    cases u <;> first | (unfold datB at h; cases h; done) | skip
    rename_i j t
    have e : j = i := of_decide_eq_true (by unfold datB at h; exact h)
    subst e
    exact ⟨.int j, ⟨t, rfl⟩, fun ω H => by unfold Dat; rfl⟩
  | .str x, u, h => by
    cases u <;> first | (unfold datB at h; cases h; done) | skip
    rename_i y t
    have e : y = x := of_decide_eq_true (by unfold datB at h; exact h)
    subst e
    exact ⟨.str y, ⟨t, rfl⟩, fun ω H => by unfold Dat; rfl⟩
  | .tup ds, u, h => by
    cases u <;> first | (unfold datB at h; cases h; done) | skip
    rename_i a
    unfold datB at h
    split at h
    · rename_i c od its n sl q
      obtain ⟨h1, h2⟩ := Bool.and_eq_true_iff.mp h
      obtain ⟨h3, h4⟩ := Bool.and_eq_true_iff.mp h2
      obtain ⟨vs, k1, k2⟩ := datBs_ok ds its.toList h4
      refine ⟨.ref a, rfl, fun ω H => ?_⟩
      unfold Dat
      exact ⟨a, vs, rfl, .inr ⟨_, its, n, q, congrArg Value.type (of_decide_eq_true h1), rfl, of_decide_eq_true h3, k1⟩, k2 ω H⟩
    · cases h
  | .non, u, h => by cases u <;> (unfold datB at h; cases h)
  | .bl _, u, h => by cases u <;> (unfold datB at h; cases h)
  | .lst _, u, h => by cases u <;> (unfold datB at h; cases h)
  | .ro _, u, h => by cases u <;> (unfold datB at h; cases h)
  | .fn _, u, h => by cases u <;> (unfold datB at h; cases h)
  | .emp, u, h => by cases u <;> (unfold datB at h; cases h)
  | .exc0 _, u, h => by cases u <;> (unfold datB at h; cases h)
  | .exc1 _ _ _, u, h => by cases u <;> (unfold datB at h; cases h)
theorem datBs_ok : ∀ (ds : List D) (us : List Value), datBs G.K ds us = true → ∃ vs, Vals vs us ∧ ∀ ω H, Dats G ω H ds vs
  | [], [], _ => ⟨[], .nil, fun _ _ => Dats.nil⟩
  | [], _ :: _, h => by unfold datBs at h; cases h
  | _ :: _, [], h => by unfold datBs at h; cases h
  | d :: ds, u :: us, h => by
    unfold datBs at h
    obtain ⟨h1, h2⟩ := Bool.and_eq_true_iff.mp h
    obtain ⟨v, k1, k2⟩ := datB_ok d u h1
    obtain ⟨vs, k3, k4⟩ := datBs_ok ds us h2
    exact ⟨v :: vs, .cons k1 k3, fun ω H => Dats.cons (k2 ω H) (k4 ω H)⟩
end
end
/-- a module's value -/
def valB (K : PySem.W.Frag) (p : Str × D) : Bool := match PySem.W.nsIn K mainGlobals p.1 with
  | some (some u) => datB K p.2 u
  | _ => false
def glB (K : PySem.W.Frag) (p : Str × GK) : Bool := match p.2 with
  | .blt => (He.Fa.free p.1).ok K
  | .fn => (He.Fa.glo p.1).ok K
  | .cls => (He.Fa.glo p.1).ok K
  | .val => true
/-- an exception's class of the table -/
def clB (K : PySem.W.Frag) (T : Tb) (c : Str) : Bool := subB K T.cs c && T.cs.contains c && (match T.xf.lookup c with
  | none => (He.Fa.exc c).ok K
  | some n => oexB K (He.ga K c) && (He.Fa.meth c "__init__").ok K && He.eqO (PySem.W.findIn K (.ref (He.ga K c)) n) (some none) && decide (PySem.W.typeIn K (.ref (He.ma K (He.ga K c) "__init__")) = some (.type "function")))
/-- all that the end asks of the head -/
def allB (T : Tb) (K : PySem.W.Frag) : Bool := (T.fs.all fun x => decide (T.gk.lookup x = some .fn)) && (T.gk.all fun p => glB K p) && (T.gk.all fun p => p.2 != .cls || clB K T p.1) && T.vals.all (valB K) && excsB K T.cs && subVB K T.cs && (T.fl.all fun n => fldB K T.cs n) && (T.xf.isEmpty || ((He.Fa.glo "CordError").ok K && creadB K (He.ga K "CordError")))
/-- an own exception's __init__ as the text has it -/
structure InitOk (P : Program) (w : World) (K : PySem.W.Frag) (mg : Str → Option Value) (base : Heap) (c n : Str) : Prop where
  ex : ∃ fd ps, FnOk P w K mg base (L2.CX P w) 1 (He.ma K (He.ga K c) "__init__") fd ps (spI K n) ∧ Binds K fd ps []
section
variable {T : Tb} {P : Program} {w : World} {K : PySem.W.Frag} {mg : Str → Option Value} {base : Heap} {h : Heap}
theorem wf_of (X : K.In h) (N : h.Ns mainGlobals mg) (c : allB T K = true) (ini : ∀ c n, (c, n) ∈ T.xf → InitOk P w K mg base c n) : Wf T P w K mg base (gmOf K T.cs T.fs) := by
  unfold allB at c
  simp only [Bool.and_eq_true] at c
  obtain ⟨⟨⟨⟨⟨⟨⟨c0, c1⟩, c2⟩, c3⟩, c4⟩, c5⟩, c6⟩, c7⟩ := c
  have gl : ∀ x k, T.gk.lookup x = some k → glB K (x, k) = true := fun x k h => List.all_eq_true.mp c1 _ (lookup_mem h)
  have clm : ∀ x, T.gk.lookup x = some .cls → mg x = some (.ref (He.ga K x)) := fun x h => He.glo_ok X N (gl x _ h)
  have cl : ∀ x, T.gk.lookup x = some .cls → clB K T x = true := fun x h => by
    have := List.all_eq_true.mp c2 _ (lookup_mem h)
    simpa using this
  have csb : ∀ x, T.gk.lookup x = some .cls → (gmOf K T.cs T.fs).cls x = some (He.ga K x) := fun x h => by
    have := cl x h
    unfold clB at this
    simp only [Bool.and_eq_true] at this
    exact if_pos this.1.2
  refine ⟨rfl, fun x h => He.free_ok X N (gl x _ h), fun x h => ?_, fun x d h => ?_, excsB_ok c4, subVB_ok c5, fun n h => fldB_ok (List.all_eq_true.mp c6 n (by simpa using h)), fun x h hx => ?_, fun x n h hx => ?_⟩
  · have := cl x h
    unfold clB at this
    simp only [Bool.and_eq_true] at this
    exact ⟨_, clm x h, subB_ok this.1.1⟩
  · unfold Tb.gv at h
    split at h
    · rename_i d' hl
      cases h
      have := List.all_eq_true.mp c3 _ (lookup_mem hl)
      unfold valB at this
      split at this
      · rename_i u q
        obtain ⟨v, k1, k2⟩ := datB_ok (G := gmOf K T.cs T.fs) d u this
        exact ⟨u, v, PySem.W.mg_of X N q, k1, k2⟩
      · cases this
    · obtain ⟨hf, h⟩ := ifSome h
      cases h
      have q := of_decide_eq_true (List.all_eq_true.mp c0 x (by simpa using hf))
      refine ⟨.ref (He.ga K x), .ref (He.ga K x), He.glo_ok X N (gl x _ q), rfl, fun ω H => ?_⟩
      unfold Dat
      exact ⟨_, rfl, if_pos hf⟩
  · have := cl x h
    unfold clB at this
    simp only [Bool.and_eq_true] at this
    have q := this.2
    rw [hx] at q
    obtain ⟨e1, e2, e3, e4⟩ := He.exc_ok q
    exact ⟨_, csb x h, clm x h, ⟨_, _, _, _, PySem.F.excBase_ValueError, e1⟩, e2, e3, e4⟩
  · have := cl x h
    unfold clB at this
    simp only [Bool.and_eq_true] at this
    have q := this.2
    rw [hx] at q
    simp only [Bool.and_eq_true] at q
    obtain ⟨⟨⟨q1, q2⟩, q3⟩, q4⟩ := q
    have M := He.meth_ok q2
    obtain ⟨fd, ps, o1, o2⟩ := (ini x n (lookup_mem hx)).ex
    exact ⟨⟨_, _, fd, ps, csb x h, clm x h, oexB_ok q1, He.eqO_ok q3, M.1, of_decide_eq_true q4, o1, o2⟩⟩
end
end Ev

set_option Elab.async false
set_option linter.all false
set_option maxRecDepth 100000
set_option maxHeartbeats 4000000
namespace Ev
open PySem PySem.Spec PyProof.Rows L2 ClX
theorem cx_no {P : Program} {w : World} {H : Hp} {s : Shared} {e : Value} {s' : Shared} (c : L2.CX P w [] H s (fun _ _ _ => False) e s') : False := by
  unfold L2.CX at c
  obtain ⟨_, _, _, _, _, _, _, _, _, _, _, _, z⟩ := c
  exact z
theorem walk_ofEB {l : PySem.W.OpenLaw} {n k : Nat} {q : Program} {loose : List Str} {XP : (Str → Option Value) → Heap → Prop} {YP : World → Heap → Prop} {d : DefRec} {x : Str}
    (hn : l.most = some n) (hn2 : n ≤ sizeLine) (hdf : d.params.defaults = []) (hr : Room k callerA)
    (F : ∀ (w : World) (mg : Str → Option Value) (fa : Addr) (h : Heap), YP w h → h.Ns mainGlobals mg → mg d.name = some (.ref fa) →
      ∃ (K : PySem.W.Frag) (fd : FuncData) (sp : Sp), K.In h ∧ (∀ (s : Shared) (u : Value), BindsTo s fd ⟨[u], []⟩ [(x, u)]) ∧
        (∀ (H : Hp) (a : Addr) (ns : List Int), ns.length ≤ n → (∀ z ∈ ns, Builtin.Int.intBits z ≤ 1048576) → SqL K H a (ns.map V.int) → sp [.ref a] H (fun v _ => v = .bl true) fun _ _ _ => False) ∧
        ∀ base : Heap, K.In base → base.Ns mainGlobals mg → FnOk l.prog w K mg base (L2.CX l.prog w) k fa fd [x] sp) :
    PySem.W.WalkO q loose XP YP l.row.toRowW d [] (fun f vs => PySem.call f vs) := by
  refine Att.attach_callB hn hdf fun w s₀ s₁ mg mb fa o pm cd doc a vs ns G Y ho hd hcd hmg hobj hints hlen hbits hg => ?_
  obtain ⟨K, fd, sp, KX, hb, hsp, hF⟩ := F w mg fa _ Y G.T.g hmg
  exact law_call KX G.T.g G.T.b G.T.builtins G.T.nolimit hg hobj hints (Nat.le_trans hlen hn2) hr hF hb (fun H _ hS => hsp H a ns hlen hbits hS) fun H e s' c => cx_no c
/-- what the head has of a def of the table -/
def rwD (T : Tb) (r : Rw) : He.DefD := ⟨(r.x, none), r.nm, r.nm, defArgs (T.st r), defBody (T.st r), defScope (T.st r), [], []⟩
/-- .. of an __init__ -/
def iniD (p : Str × Str × Stmt) : He.DefD := ⟨(p.1, some "__init__"), "__init__", p.1 ++ ".__init__", defArgs p.2.2, defBody p.2.2, defScope p.2.2, [], []⟩
/-- an __init__'s text -/
structure InOk (T : Tb) (p : Str × Str × Stmt) : Prop where
  ok : ∀ {P : Program} {w : World} {K : PySem.W.Frag} {mg : Str → Option Value} {base : Heap} {qual : Str} {f C0 : Addr} {fd : FuncData}, Fun K "__init__" qual p.2.2 f fd → CRead K C0 (.type "type") → PySem.W.findCls K (.ref C0) (.type "type") "__init__" = some (.val (.builtin "ValueError.__init__")) → mg "CordError" = some (.ref C0) →
    ∃ ps, FnOk P w K mg base (L2.CX P w) 1 f fd ps (spI K p.2.1) ∧ Binds K fd ps []
/-- the table, checked -/
def nmB (T : Tb) (rows : List Rw) : Bool := rows.all fun r => T.fs.contains r.x && decide (T.gk.lookup r.x = some .fn)
section
variable {T : Tb} {P : Program} {w : World} {K : PySem.W.Frag} {mg : Str → Option Value} {h : Heap} {rows : List Rw} {inis : List (Str × Str × Stmt)}
theorem mem_def {fn : List He.DefD} {d : He.DefD} (c : He.SaysD [] fn K) (hd : d ∈ fn) : ∃ fd, FunD K d.name d.qual d.params d.body d.scope (d.dvs K) (d.kws K) (He.fAd K d.at_) fd := by
  obtain ⟨i, hi, e⟩ := List.mem_iff_getElem.mp hd
  exact c.def_ i (by rw [List.getElem?_eq_getElem hi, e])
theorem at_of (X : K.In h) (N : h.Ns mainGlobals mg) (c : He.SaysD [] (inis.map iniD ++ rows.map (rwD T)) K) (ck : allB T K = true) (nm : nmB T rows = true) : ∀ r ∈ rows, At1 T K mg (gmOf K T.cs T.fs) r := fun r hr => by
  obtain ⟨fd, F⟩ := mem_def c (d := rwD T r) (List.mem_append_right _ (List.mem_map_of_mem hr))
  have q := List.all_eq_true.mp nm r hr
  obtain ⟨q1, q2⟩ := Bool.and_eq_true_iff.mp q
  have q2 := of_decide_eq_true q2
  unfold allB at ck
  simp only [Bool.and_eq_true] at ck
  have g := List.all_eq_true.mp ck.1.1.1.1.1.1.2 _ (lookup_mem q2)
  exact ⟨He.ga K r.x, fd, fun_of F, He.glo_ok X N g, if_pos q1⟩
theorem ini_of (X : K.In h) (N : h.Ns mainGlobals mg) (c : He.SaysD [] (inis.map iniD ++ rows.map (rwD T)) K) (ck : allB T K = true) (hi : ∀ c n, (c, n) ∈ T.xf → ∃ st, (c, n, st) ∈ inis) (ok : ∀ p ∈ inis, InOk T p) (base : Heap) : ∀ c n, (c, n) ∈ T.xf → InitOk P w K mg base c n := fun x n hm => by
  obtain ⟨st, hst⟩ := hi x n hm
  obtain ⟨fd, F⟩ := mem_def c (d := iniD (x, n, st)) (List.mem_append_left _ (List.mem_map_of_mem hst))
  unfold allB at ck
  simp only [Bool.and_eq_true, Bool.or_eq_true] at ck
  rcases ck.2 with e | ⟨e1, e2⟩
  · rw [List.isEmpty_iff] at e
    rw [e] at hm
    cases hm
  · obtain ⟨r1, r2⟩ := creadB_ok e2
    obtain ⟨ps, o1, o2⟩ := (ok _ hst).ok (P := P) (w := w) (mg := mg) (base := base) (fun_of F) r1 r2 (He.glo_ok X N e1)
    exact ⟨fd, ps, o1, o2⟩
end
/-- THE END: the law's rows, the last one ahead; what the law's own run says -/
theorem law_end {l : PySem.W.OpenLaw} {T : Tb} {r0 : Rw} {rest : List Rw} {inis : List (Str × Str × Stmt)} {q : Program} {loose : List Str} {XP : (Str → Option Value) → Heap → Prop} {d : DefRec} {x : Str} {m : Nat}
    (hn : l.most = some 63) (hdf : d.params.defaults = []) (hd : d.name = r0.x) (hx : r0.ps = [x])
    (ok : ∀ r ∈ r0 :: rest, RwOk T r) (nm : nmB T (r0 :: rest) = true) (hi : ∀ c n, (c, n) ∈ T.xf → ∃ st, (c, n, st) ∈ inis) (iok : ∀ p ∈ inis, InOk T p) (hr : Room ((r0 :: rest).length + 2) callerA)
    (run : ∀ ns : List Int, ns.length ≤ 63 → (∀ z ∈ ns, Builtin.Int.intBits z ≤ 1048576) → ∃ outs, runDef (semL T.gv rest) r0.df [.val (.ro (ns.map .int))] = some (.ret (.val (.bl true)) outs)) :
    PySem.W.WalkO q loose XP (hookX m [] (inis.map iniD ++ (r0 :: rest).map (rwD T)) (allB T)).says l.row.toRowW d [] (fun f vs => PySem.call f vs) := by
  refine walk_ofEB (x := x) hn (by decide) hdf hr fun w mg fa h Y N hmg => ?_
  obtain ⟨K, KX, c, ck⟩ := Y
  have A := at_of (rows := r0 :: rest) (inis := inis) KX N c ck nm
  obtain ⟨a, fd, FN, h1, h2⟩ := A r0 List.mem_cons_self
  rw [hd, h1] at hmg
  cases hmg
  have o := ok r0 List.mem_cons_self
  have hl : r0.ps.length = r0.np := by
    unfold Rw.ps
    rw [List.length_take]
    exact Nat.min_eq_left o.np
  refine ⟨K, fd, spF (gmOf K T.cs T.fs) (runDef (semL T.gv rest) r0.df), KX, fun s u => ?_, fun H a ns hl hb hS => ?_, fun base KB NB => ?_⟩
  · obtain ⟨oc, od, kV, doc, pm, an, cdv, ct, osl, rfl, lk, hcd⟩ := FN.ex
    have := o.bind kV doc pm an cdv ct [u] (by rw [hx]; rfl)
    rw [hx] at this
    exact .of_eq this
  · obtain ⟨outs, hrun⟩ := run ns hl hb
    refine ⟨[.val (.ro (ns.map .int))], fun _ => none, rfl, fun i w' e => ?_, fun a z => absurd rfl z, ?_⟩
    · cases i with
      | succ i => simp at e
      | zero =>
        have e : W.val (.ro (ns.map .int)) = w' := by simpa using e
        subst e
        refine ⟨.ref a, rfl, ?_⟩
        show Dat _ _ _ _ _
        unfold Dat
        refine ⟨a, ns.map V.int, rfl, ?_, ?_⟩
        · rcases hS with hS | hS
          · exact .inl ⟨hS, rfl⟩
          · exact .inr hS
        · clear hrun hb hl hS
          induction ns with
          | nil => exact Dats.nil
          | cons n ns ih => exact Dats.cons (by unfold Dat; rfl) (ih rfl)
    · rw [hrun]
      intro v H' ω' _ en _
      have : Dat (gmOf K T.cs T.fs) ω' H' (.bl true) v := en
      unfold Dat at this
      exact this
  · have W := wf_of (P := l.prog) (w := w) (base := base) KX N ck (ini_of KX N c ck hi iok base)
    have S := semL_ok W rest (fun r hr => ok r (List.mem_cons_of_mem _ hr)) (fun r hr => A r (List.mem_cons_of_mem _ hr))
    have R := def_ok (E := T.E r0) FN o.sc rfl hl (dx_of W (by omega) S (semL_gv rest) r0) o.comp
    have hx' : r0.ps = [x] := hx
    unfold Rw.ps at hx' R
    rw [hx'] at R
    exact R.mono (by simp)
end Ev

set_option linter.all false
namespace Ev
open PySem
def c_is_whole : CB := (.cons (.ret (.and (.prim (.isi "int") (.cons (.v 0) .nil)) (.not (.prim (.isi "bool") (.cons (.v 0) .nil))))) .nil)
def c_common : CB := (.cons (.setP [0, 1] (.cons (.prim .abs (.cons (.v 0) .nil)) (.cons (.prim .abs (.cons (.v 1) .nil)) .nil))) (.cons (.whl (.prim .ne (.cons (.v 1) (.cons (.k (.int 0)) .nil))) (.cons (.setP [0, 1] (.cons (.v 1) (.cons (.prim .mod (.cons (.v 0) (.cons (.v 1) .nil))) .nil))) .nil)) (.cons (.ret (.v 0)) .nil)))
def c_is_number : CB := (.cons (.iff (.or (.not (.prim (.isi "tuple") (.cons (.v 0) .nil))) (.or (.prim .ne (.cons (.prim .len (.cons (.v 0) .nil)) (.cons (.k (.int 2)) .nil))) (.not (.prim .all (.cons (.comp (.seq (.v 0)) [1] false (.k (.bl true)) (.call "is_whole" (.cons (.v 1) .nil))) .nil))))) (.cons (.ret (.k (.bl false))) .nil) .nil) (.cons (.ret (.and (.prim .ge (.cons (.prim .item (.cons (.v 0) (.cons (.k (.int 1)) .nil))) (.cons (.k (.int 1)) .nil))) (.prim .eq (.cons (.call "common" (.cons (.prim .item (.cons (.v 0) (.cons (.k (.int 0)) .nil))) (.cons (.prim .item (.cons (.v 0) (.cons (.k (.int 1)) .nil))) .nil))) (.cons (.k (.int 1)) .nil))))) .nil))
def c_show_number : CB := (.cons (.iff (.prim .eq (.cons (.prim .item (.cons (.v 0) (.cons (.k (.int 1)) .nil))) (.cons (.k (.int 1)) .nil))) (.cons (.ret (.prim .str (.cons (.prim .item (.cons (.v 0) (.cons (.k (.int 0)) .nil))) .nil))) .nil) .nil) (.cons (.ret (.prim .add (.cons (.prim .add (.cons (.prim .str (.cons (.prim .item (.cons (.v 0) (.cons (.k (.int 0)) .nil))) .nil)) (.cons (.k (.str "/")) .nil))) (.cons (.prim .str (.cons (.prim .item (.cons (.v 0) (.cons (.k (.int 1)) .nil))) .nil)) .nil)))) .nil))
def c_are_figures : CB := (.cons (.iff (.or (.prim .eq (.cons (.v 0) (.cons (.k (.str "")) .nil))) (.not (.prim .all (.cons (.comp (.seq (.v 0)) [1] false (.k (.bl true)) (.prim .inn (.cons (.v 1) (.cons (.g "FIGURES") .nil)))) .nil)))) (.cons (.ret (.k (.bl false))) .nil) .nil) (.cons (.ret (.or (.prim .eq (.cons (.v 0) (.cons (.k (.str "0")) .nil))) (.prim .ne (.cons (.prim .item (.cons (.v 0) (.cons (.k (.int 0)) .nil))) (.cons (.k (.str "0")) .nil))))) .nil))
def c_number_in : CB := (.cons (.setT [1, 2, 3] (.prim .part (.cons (.v 0) (.cons (.k (.str "/")) .nil)))) (.cons (.set 4 (.v 1)) (.cons (.iff (.prim .eq (.cons (.prim .sliceTo (.cons (.v 1) (.cons (.k (.int 1)) .nil))) (.cons (.k (.str "-")) .nil))) (.cons (.set 4 (.prim .sliceFrom (.cons (.v 1) (.cons (.k (.int 1)) .nil)))) .nil) .nil) (.cons (.iff (.or (.not (.call "are_figures" (.cons (.v 4) .nil))) (.prim .eq (.cons (.v 1) (.cons (.k (.str "-0")) .nil)))) (.cons (.ret (.k .non)) .nil) .nil) (.cons (.iff (.prim .eq (.cons (.v 2) (.cons (.k (.str "")) .nil))) (.cons (.ret (.tup (.cons (.prim .int (.cons (.v 1) .nil)) (.cons (.k (.int 1)) .nil)))) .nil) .nil) (.cons (.iff (.or (.not (.call "are_figures" (.cons (.v 3) .nil))) (.or (.prim .eq (.cons (.v 3) (.cons (.k (.str "1")) .nil))) (.not (.call "is_number" (.cons (.tup (.cons (.prim .int (.cons (.v 1) .nil)) (.cons (.prim .int (.cons (.v 3) .nil)) .nil))) .nil))))) (.cons (.ret (.k .non)) .nil) .nil) (.cons (.ret (.tup (.cons (.prim .int (.cons (.v 1) .nil)) (.cons (.prim .int (.cons (.v 3) .nil)) .nil)))) .nil)))))))
def c_check_text : CB := (.cons (.iff (.not (.prim (.isi "str") (.cons (.v 0) .nil))) (.cons (.raise "NoText" (some "part") (.k .non)) .nil) .nil) .nil)
def c_show_row : CB := (.cons (.ret (.prim .join (.cons (.k (.str " ")) (.cons (.comp (.seq (.v 0)) [1] false (.k (.bl true)) (.call "show_number" (.cons (.v 1) .nil))) .nil)))) .nil)
def c__law_mixed : CB := (.cons (.ret (.prim .mod (.cons (.prim .mul (.cons (.v 0) (.cons (.k (.int 301029995663981195213738894724493026768189881462108541310427)) .nil))) (.cons (.prim .pow (.cons (.k (.int 10)) (.cons (.k (.int 60)) .nil))) .nil)))) .nil)
def c__law_pack : CB := (.cons (.set 2 (.k (.int 0))) (.cons (.for (.seq (.lst (.cons (.prim .add (.cons (.v 1) (.cons (.k (.int 1)) .nil))) (.cons (.v 1) .nil)))) [3] false (.cons (.set 2 (.prim .add (.cons (.prim .mul (.cons (.v 2) (.cons (.prim .pow (.cons (.k (.int 10)) (.cons (.k (.int 60)) .nil))) .nil))) (.cons (.call "_law_mixed" (.cons (.prim .item (.cons (.prim .add (.cons (.sl (.v 0) (.v 3) (.prim .add (.cons (.v 3) (.cons (.k (.int 1)) .nil)))) (.cons (.lst (.cons (.prim .add (.cons (.prim .mul (.cons (.k (.int 7907)) (.cons (.v 3) .nil))) (.cons (.k (.int 53)) .nil))) .nil)) .nil))) (.cons (.k (.int 0)) .nil))) .nil)) .nil)))) .nil)) (.cons (.ret (.lst (.cons (.v 2) .nil))) .nil)))
def c__law_take : CB := (.cons (.dm 0 2 (.cons (.prim .item (.cons (.v 0) (.cons (.k (.int 0)) .nil))) (.cons (.v 1) .nil))) (.cons (.ret (.v 2)) .nil))
def c__law_low : CB := (.cons (.setP [2, 3] (.cons (.prim .abs (.cons (.v 0) .nil)) (.cons (.prim .abs (.cons (.v 1) .nil)) .nil))) (.cons (.whl (.prim .ne (.cons (.v 3) (.cons (.k (.int 0)) .nil))) (.cons (.setP [2, 3] (.cons (.v 3) (.cons (.prim .mod (.cons (.v 2) (.cons (.v 3) .nil))) .nil))) .nil)) (.cons (.iff (.prim .lt (.cons (.v 1) (.cons (.k (.int 0)) .nil))) (.cons (.set 2 (.prim .sub (.cons (.k (.int 0)) (.cons (.v 2) .nil)))) .nil) .nil) (.cons (.ret (.tup (.cons (.prim .fdiv (.cons (.v 0) (.cons (.v 2) .nil))) (.cons (.prim .fdiv (.cons (.v 1) (.cons (.v 2) .nil))) .nil)))) .nil))))
def c__law_number : CB := (.cons (.set 2 (.prim .item (.cons (.lst (.cons (.k (.int 1)) (.cons (.k (.int 1)) (.cons (.k (.int 1)) (.cons (.k (.int 2)) (.cons (.k (.int 3)) (.cons (.k (.int 5)) (.cons (.k (.int 12)) (.cons (.k (.int 1)) .nil))))))))) (.cons (.call "_law_take" (.cons (.v 0) (.cons (.k (.int 8)) .nil))) .nil)))) (.cons (.ret (.call "_law_low" (.cons (.prim .sub (.cons (.call "_law_take" (.cons (.v 0) (.cons (.prim .add (.cons (.prim .mul (.cons (.k (.int 2)) (.cons (.v 1) .nil))) (.cons (.k (.int 1)) .nil))) .nil))) (.cons (.v 1) .nil))) (.cons (.v 2) .nil)))) .nil))
def c__law_number_text : CB := (.cons (.set 1 (.prim .str (.cons (.prim .item (.cons (.v 0) (.cons (.k (.int 0)) .nil))) .nil))) (.cons (.iff (.prim .ne (.cons (.prim .item (.cons (.v 0) (.cons (.k (.int 1)) .nil))) (.cons (.k (.int 1)) .nil))) (.cons (.set 1 (.prim .add (.cons (.prim .add (.cons (.v 1) (.cons (.k (.str "/")) .nil))) (.cons (.prim .str (.cons (.prim .item (.cons (.v 0) (.cons (.k (.int 1)) .nil))) .nil)) .nil)))) .nil) .nil) (.cons (.ret (.v 1)) .nil)))
def c__law_sort : CB := (.cons (.set 1 (.lst (.cons (.prim (.isc "NoText") (.cons (.v 0) .nil)) (.cons (.prim (.isc "NoNumber") (.cons (.v 0) .nil)) (.cons (.prim (.isc "NoTube") (.cons (.v 0) .nil)) (.cons (.prim (.isc "NoRow") (.cons (.v 0) .nil)) .nil)))))) (.cons (.set 1 (.prim .add (.cons (.v 1) (.cons (.lst (.cons (.prim (.isc "NoMeasure") (.cons (.v 0) .nil)) (.cons (.prim (.isc "NoLevel") (.cons (.v 0) .nil)) (.cons (.prim (.isc "NoData") (.cons (.v 0) .nil)) (.cons (.prim (.isc "NoPrice") (.cons (.v 0) .nil)) .nil))))) .nil)))) (.cons (.set 1 (.prim .add (.cons (.v 1) (.cons (.lst (.cons (.prim (.isc "NoNeeds") (.cons (.v 0) .nil)) (.cons (.prim (.isc "NoRoom") (.cons (.v 0) .nil)) (.cons (.prim (.isc "NoJobs") (.cons (.v 0) .nil)) (.cons (.prim (.isc "NoCall") (.cons (.v 0) .nil)) .nil))))) .nil)))) (.cons (.ex (.mut .append 1 (.cons (.prim (.isc "NoKept") (.cons (.v 0) .nil)) .nil))) (.cons (.iff (.or (.not (.prim (.isc "ValueError") (.cons (.v 0) .nil))) (.prim .ne (.cons (.prim .sum (.cons (.v 1) .nil)) (.cons (.k (.int 1)) .nil)))) (.cons (.ret (.k .non)) .nil) .nil) (.cons (.ret (.prim .index (.cons (.v 1) (.cons (.k (.bl true)) .nil)))) .nil))))))
def c__law_refused : CB := (.cons (.set 3 (.k .non)) (.cons (.tryAs (.cons (.ex (.callv 0 (.cons (.v 1) .nil))) .nil) "CordError" 4 3) (.cons (.ret (.and (.prim .isnotN (.cons (.v 3) .nil)) (.and (.prim .eq (.cons (.call "_law_sort" (.cons (.v 3) .nil)) (.cons (.k (.int 0)) .nil))) (.and (.prim .eq (.cons (.fld 3 "part") (.cons (.v 2) .nil))) (.not (.prim (.isi "bool") (.cons (.fld 3 "part") .nil))))))) .nil)))
def c_is_less : CB := (.cons (.ret (.prim .lt (.cons (.prim .mul (.cons (.prim .item (.cons (.v 0) (.cons (.k (.int 0)) .nil))) (.cons (.prim .item (.cons (.v 1) (.cons (.k (.int 1)) .nil))) .nil))) (.cons (.prim .mul (.cons (.prim .item (.cons (.v 1) (.cons (.k (.int 0)) .nil))) (.cons (.prim .item (.cons (.v 0) (.cons (.k (.int 1)) .nil))) .nil))) .nil)))) .nil)
def c_is_pair : CB := (.cons (.iff (.or (.not (.prim (.isi "tuple") (.cons (.v 0) .nil))) (.or (.prim .ne (.cons (.prim .len (.cons (.v 0) .nil)) (.cons (.k (.int 2)) .nil))) (.or (.not (.call "is_number" (.cons (.prim .item (.cons (.v 0) (.cons (.k (.int 0)) .nil))) .nil))) (.not (.call "is_number" (.cons (.prim .item (.cons (.v 0) (.cons (.k (.int 1)) .nil))) .nil)))))) (.cons (.ret (.k (.bl false))) .nil) .nil) (.cons (.ret (.not (.call "is_less" (.cons (.prim .item (.cons (.v 0) (.cons (.k (.int 1)) .nil))) (.cons (.prim .item (.cons (.v 0) (.cons (.k (.int 0)) .nil))) .nil))))) .nil))
def c_is_tube : CB := (.cons (.iff (.or (.not (.prim (.isi "tuple") (.cons (.v 0) .nil))) (.not (.chain .le .le (.k (.int 2)) (.prim .len (.cons (.v 0) .nil)) (.g "MOST_PLACES_tubes")))) (.cons (.ret (.k (.bl false))) .nil) .nil) (.cons (.ret (.prim .all (.cons (.comp (.seq (.v 0)) [1] false (.k (.bl true)) (.call "is_pair" (.cons (.v 1) .nil))) .nil))) .nil))
def c_show_place : CB := (.cons (.setT [1, 2] (.v 0)) (.cons (.iff (.prim .eq (.cons (.v 1) (.cons (.v 2) .nil))) (.cons (.ret (.call "show_number" (.cons (.v 1) .nil))) .nil) .nil) (.cons (.ret (.prim .add (.cons (.prim .add (.cons (.call "show_number" (.cons (.v 1) .nil)) (.cons (.k (.str "..")) .nil))) (.cons (.call "show_number" (.cons (.v 2) .nil)) .nil)))) .nil)))
def c_show_tube : CB := (.cons (.ret (.prim .join (.cons (.k (.str ", ")) (.cons (.comp (.seq (.v 0)) [1] false (.k (.bl true)) (.call "show_place" (.cons (.v 1) .nil))) .nil)))) .nil)
def c_place_in : CB := (.cons (.setT [1, 2, 3] (.prim .part (.cons (.v 0) (.cons (.k (.str "..")) .nil)))) (.cons (.set 4 (.call "number_in" (.cons (.v 1) .nil))) (.cons (.iff (.prim .eq (.cons (.v 2) (.cons (.k (.str "")) .nil))) (.cons (.ret (.and (.v 4) (.tup (.cons (.v 4) (.cons (.v 4) .nil))))) .nil) .nil) (.cons (.set 5 (.call "number_in" (.cons (.v 3) .nil))) (.cons (.iff (.or (.prim .isN (.cons (.v 4) .nil)) (.or (.prim .isN (.cons (.v 5) .nil)) (.not (.call "is_less" (.cons (.v 4) (.cons (.v 5) .nil)))))) (.cons (.ret (.k .non)) .nil) .nil) (.cons (.ret (.tup (.cons (.v 4) (.cons (.v 5) .nil)))) .nil))))))
def c_read_tube : CB := (.cons (.ex (.call "check_text" (.cons (.v 0) .nil))) (.cons (.set 1 (.tup .nil)) (.cons (.for (.enum (.prim .split (.cons (.v 0) (.cons (.k (.str ", ")) .nil)))) [2, 3] true (.cons (.set 4 (.call "place_in" (.cons (.v 3) .nil))) (.cons (.iff (.or (.prim .isN (.cons (.v 4) .nil)) (.prim .ge (.cons (.v 2) (.cons (.g "MOST_PLACES_cordtexts") .nil)))) (.cons (.raise "NoText" (some "part") (.v 2)) .nil) .nil) (.cons (.set 1 (.prim .add (.cons (.v 1) (.cons (.tup (.cons (.v 4) .nil)) .nil)))) .nil)))) (.cons (.iff (.prim .lt (.cons (.prim .len (.cons (.v 1) .nil)) (.cons (.k (.int 2)) .nil))) (.cons (.raise "NoText" (some "part") (.k (.int 1))) .nil) .nil) (.cons (.ret (.v 1)) .nil)))))
def c__law_more : CB := (.cons (.ret (.call "_law_low" (.cons (.prim .add (.cons (.prim .mul (.cons (.prim .item (.cons (.v 0) (.cons (.k (.int 0)) .nil))) (.cons (.prim .item (.cons (.v 1) (.cons (.k (.int 1)) .nil))) .nil))) (.cons (.prim .mul (.cons (.prim .item (.cons (.v 1) (.cons (.k (.int 0)) .nil))) (.cons (.prim .item (.cons (.v 0) (.cons (.k (.int 1)) .nil))) .nil))) .nil))) (.cons (.prim .mul (.cons (.prim .item (.cons (.v 0) (.cons (.k (.int 1)) .nil))) (.cons (.prim .item (.cons (.v 1) (.cons (.k (.int 1)) .nil))) .nil))) .nil)))) .nil)
def c__law_width : CB := (.cons (.set 2 (.call "_law_take" (.cons (.v 0) (.cons (.k (.int 4)) .nil)))) (.cons (.iff (.prim .eq (.cons (.v 2) (.cons (.k (.int 0)) .nil))) (.cons (.ret (.tup (.cons (.k (.int 0)) (.cons (.k (.int 1)) .nil)))) .nil) .nil) (.cons (.ret (.call "_law_low" (.cons (.call "_law_take" (.cons (.v 0) (.cons (.prim .add (.cons (.v 1) (.cons (.k (.int 1)) .nil))) .nil))) (.cons (.prim .item (.cons (.lst (.cons (.k (.int 1)) (.cons (.k (.int 1)) (.cons (.k (.int 1)) (.cons (.k (.int 2)) .nil))))) (.cons (.v 2) .nil))) .nil)))) .nil)))
def c__law_loose_tube : CB := (.cons (.set 3 (.tup (.cons (.k (.int 0)) (.cons (.k (.int 1)) .nil)))) (.cons (.set 4 (.lst .nil)) (.cons (.for (.range (.cons (.prim .add (.cons (.k (.int 2)) (.cons (.call "_law_take" (.cons (.v 0) (.cons (.prim .sub (.cons (.v 1) (.cons (.k (.int 1)) .nil))) .nil))) .nil))) .nil)) [5] false (.cons (.set 3 (.call "_law_more" (.cons (.v 3) (.cons (.tup (.cons (.prim .sub (.cons (.call "_law_take" (.cons (.v 0) (.cons (.k (.int 7)) .nil))) (.cons (.k (.int 3)) .nil))) (.cons (.k (.int 1)) .nil))) .nil)))) (.cons (.ex (.mut .append 4 (.cons (.tup (.cons (.v 3) (.cons (.call "_law_more" (.cons (.v 3) (.cons (.call "_law_width" (.cons (.v 0) (.cons (.v 2) .nil))) .nil))) .nil))) .nil))) .nil))) (.cons (.ret (.prim .tuple (.cons (.v 4) .nil))) .nil))))
def c__law_tube : CB := (.cons (.set 3 (.call "_law_loose_tube" (.cons (.v 0) (.cons (.v 1) (.cons (.v 2) .nil))))) (.cons (.setP [4, 5] (.cons (.prim .item (.cons (.prim .item (.cons (.v 3) (.cons (.k (.int 0)) .nil))) (.cons (.call "_law_take" (.cons (.v 0) (.cons (.k (.int 2)) .nil))) .nil))) (.cons (.prim .item (.cons (.prim .item (.cons (.v 3) (.cons (.prim .neg (.cons (.k (.int 1)) .nil)) .nil))) (.cons (.call "_law_take" (.cons (.v 0) (.cons (.k (.int 2)) .nil))) .nil))) .nil))) (.cons (.ret (.prim .add (.cons (.prim .add (.cons (.tup (.cons (.tup (.cons (.v 4) (.cons (.v 4) .nil))) .nil)) (.cons (.sl (.v 3) (.k (.int 1)) (.prim .neg (.cons (.k (.int 1)) .nil))) .nil))) (.cons (.tup (.cons (.tup (.cons (.v 5) (.cons (.v 5) .nil))) .nil)) .nil)))) .nil)))
def c__law_place_text : CB := (.cons (.iff (.prim .eq (.cons (.prim .item (.cons (.v 0) (.cons (.k (.int 0)) .nil))) (.cons (.prim .item (.cons (.v 0) (.cons (.k (.int 1)) .nil))) .nil))) (.cons (.ret (.call "_law_number_text" (.cons (.prim .item (.cons (.v 0) (.cons (.k (.int 0)) .nil))) .nil))) .nil) .nil) (.cons (.ret (.prim .add (.cons (.prim .add (.cons (.call "_law_number_text" (.cons (.prim .item (.cons (.v 0) (.cons (.k (.int 0)) .nil))) .nil)) (.cons (.k (.str "..")) .nil))) (.cons (.call "_law_number_text" (.cons (.prim .item (.cons (.v 0) (.cons (.k (.int 1)) .nil))) .nil)) .nil)))) .nil))
def c_is_jobs : CB := (.cons (.iff (.or (.not (.prim (.isi "tuple") (.cons (.v 0) .nil))) (.or (.not (.chain .le .le (.k (.int 1)) (.prim .len (.cons (.v 0) .nil)) (.g "MOST_JOBS"))) (.not (.prim .all (.cons (.comp (.seq (.v 0)) [1] false (.k (.bl true)) (.call "is_job" (.cons (.v 1) .nil))) .nil))))) (.cons (.ret (.k (.bl false))) .nil) .nil) (.cons (.for (.zip (.v 0) (.prim .sliceFrom (.cons (.v 0) (.cons (.k (.int 1)) .nil)))) [1, 2] true (.cons (.iff (.or (.prim .lt (.cons (.prim .item (.cons (.v 2) (.cons (.k (.int 0)) .nil))) (.cons (.prim .item (.cons (.v 1) (.cons (.k (.int 0)) .nil))) .nil))) (.prim .lt (.cons (.prim .item (.cons (.v 2) (.cons (.k (.int 1)) .nil))) (.cons (.prim .item (.cons (.v 1) (.cons (.k (.int 1)) .nil))) .nil)))) (.cons (.ret (.k (.bl false))) .nil) .nil) .nil)) (.cons (.ret (.k (.bl true))) .nil)))
def c_show_jobs : CB := (.cons (.ret (.prim .join (.cons (.k (.str "; ")) (.cons (.comp (.seq (.v 0)) [1, 2, 3] true (.k (.bl true)) (.prim .add (.cons (.prim .add (.cons (.prim .add (.cons (.prim .add (.cons (.prim .str (.cons (.v 1) .nil)) (.cons (.k (.str " ")) .nil))) (.cons (.prim .str (.cons (.v 2) .nil)) .nil))) (.cons (.k (.str " ")) .nil))) (.cons (.call "show_number" (.cons (.v 3) .nil)) .nil)))) .nil)))) .nil)
def c_job_in : CB := (.cons (.set 1 (.prim .split (.cons (.v 0) (.cons (.k (.str " ")) .nil)))) (.cons (.iff (.or (.prim .ne (.cons (.prim .len (.cons (.v 1) .nil)) (.cons (.k (.int 3)) .nil))) (.or (.not (.call "are_figures" (.cons (.prim .item (.cons (.v 1) (.cons (.k (.int 0)) .nil))) .nil))) (.not (.call "are_figures" (.cons (.prim .item (.cons (.v 1) (.cons (.k (.int 1)) .nil))) .nil))))) (.cons (.ret (.k .non)) .nil) .nil) (.cons (.ret (.tup (.cons (.prim .int (.cons (.prim .item (.cons (.v 1) (.cons (.k (.int 0)) .nil))) .nil)) (.cons (.prim .int (.cons (.prim .item (.cons (.v 1) (.cons (.k (.int 1)) .nil))) .nil)) (.cons (.call "number_in" (.cons (.prim .item (.cons (.v 1) (.cons (.k (.int 2)) .nil))) .nil)) .nil))))) .nil)))
def c_read_jobs : CB := (.cons (.ex (.call "check_text" (.cons (.v 0) .nil))) (.cons (.set 1 (.tup .nil)) (.cons (.for (.enum (.prim .split (.cons (.v 0) (.cons (.k (.str "; ")) .nil)))) [2, 3] true (.cons (.set 1 (.prim .add (.cons (.v 1) (.cons (.tup (.cons (.call "job_in" (.cons (.v 3) .nil)) .nil)) .nil)))) (.cons (.iff (.not (.call "is_jobs" (.cons (.v 1) .nil))) (.cons (.raise "NoText" (some "part") (.v 2)) .nil) .nil) .nil))) (.cons (.ret (.v 1)) .nil))))
def c__law_job_text : CB := (.cons (.ret (.prim .add (.cons (.prim .add (.cons (.prim .add (.cons (.prim .add (.cons (.prim .str (.cons (.prim .item (.cons (.v 0) (.cons (.k (.int 0)) .nil))) .nil)) (.cons (.k (.str " ")) .nil))) (.cons (.prim .str (.cons (.prim .item (.cons (.v 0) (.cons (.k (.int 1)) .nil))) .nil)) .nil))) (.cons (.k (.str " ")) .nil))) (.cons (.call "_law_number_text" (.cons (.prim .item (.cons (.v 0) (.cons (.k (.int 2)) .nil))) .nil)) .nil)))) .nil)
def c_read_row_v1 : CB := (.cons (.ex (.call "check_text" (.cons (.v 0) .nil))) (.cons (.set 1 (.tup .nil)) (.cons (.for (.enum (.prim .split (.cons (.v 0) (.cons (.k (.str " ")) .nil)))) [2, 3] true (.cons (.set 4 (.call "number_in" (.cons (.v 3) .nil))) (.cons (.iff (.or (.prim .isN (.cons (.v 4) .nil)) (.prim .ge (.cons (.v 2) (.cons (.g "MOST_PLACES_cordtexts") .nil)))) (.cons (.raise "NoText" (some "part") (.v 2)) .nil) .nil) (.cons (.set 1 (.prim .add (.cons (.v 1) (.cons (.tup (.cons (.v 4) .nil)) .nil)))) .nil)))) (.cons (.ret (.v 1)) .nil))))
def c__law_under : CB := (.cons (.ret (.prim .lt (.cons (.prim .mul (.cons (.prim .item (.cons (.v 0) (.cons (.k (.int 0)) .nil))) (.cons (.prim .item (.cons (.v 1) (.cons (.k (.int 1)) .nil))) .nil))) (.cons (.prim .mul (.cons (.prim .item (.cons (.v 1) (.cons (.k (.int 0)) .nil))) (.cons (.prim .item (.cons (.v 0) (.cons (.k (.int 1)) .nil))) .nil))) .nil)))) .nil)
def c__law_signs : CB := (.cons (.set 0 (.k (.str " !\"#$&'()*+,-./0123456789:;<=>?@ABCDEFGHIJKLMNOPQRSTUVWXYZ[\\]^_`"))) (.cons (.ret (.prim .add (.cons (.v 0) (.cons (.k (.str "abcdefghijklmnopqrstuvwxyz{|}~\n\t")) .nil)))) .nil))
def c__law_bent : CB := (.cons (.set 2 (.call "_law_take" (.cons (.v 0) (.cons (.prim .add (.cons (.prim .len (.cons (.v 1) .nil)) (.cons (.k (.int 1)) .nil))) .nil)))) (.cons (.set 3 (.prim .item (.cons (.lst (.cons (.k (.str "")) (.cons (.k (.str " ")) (.cons (.k (.str "/")) (.cons (.k (.str "-")) (.cons (.k (.str "0")) (.cons (.k (.str "1")) (.cons (.k (.str "7")) (.cons (.k (.str "..")) (.cons (.k (.str ", ")) (.cons (.k (.str "; ")) (.cons (.k (.str ",")) (.cons (.k (.str ";")) (.cons (.k (.str ".")) (.cons (.k (.str "1/2")) (.cons (.k (.str " 3")) (.cons (.k (.str "x")) .nil))))))))))))))))) (.cons (.call "_law_take" (.cons (.v 0) (.cons (.k (.int 16)) .nil))) .nil)))) (.cons (.iff (.prim .eq (.cons (.call "_law_take" (.cons (.v 0) (.cons (.k (.int 2)) .nil))) (.cons (.k (.int 1)) .nil))) (.cons (.set 4 (.call "_law_signs" .nil)) (.cons (.set 3 (.prim .item (.cons (.v 4) (.cons (.call "_law_take" (.cons (.v 0) (.cons (.prim .len (.cons (.v 4) .nil)) .nil))) .nil)))) .nil)) .nil) (.cons (.ret (.prim .add (.cons (.prim .add (.cons (.prim .sliceTo (.cons (.v 1) (.cons (.v 2) .nil))) (.cons (.v 3) .nil))) (.cons (.prim .sliceFrom (.cons (.v 1) (.cons (.prim .add (.cons (.v 2) (.cons (.call "_law_take" (.cons (.v 0) (.cons (.k (.int 3)) .nil))) .nil))) .nil))) .nil)))) .nil))))
def c__law_figures : CB := (.cons (.iff (.or (.prim .eq (.cons (.v 0) (.cons (.k (.str "")) .nil))) (.not (.prim .all (.cons (.comp (.seq (.v 0)) [1] false (.k (.bl true)) (.prim .inn (.cons (.v 1) (.cons (.k (.str "0123456789")) .nil)))) .nil)))) (.cons (.ret (.k (.bl false))) .nil) .nil) (.cons (.ret (.or (.prim .eq (.cons (.v 0) (.cons (.k (.str "0")) .nil))) (.prim .ne (.cons (.prim .item (.cons (.v 0) (.cons (.k (.int 0)) .nil))) (.cons (.k (.str "0")) .nil))))) .nil))
def c__law_number_of : CB := (.cons (.set 1 (.prim .split (.cons (.v 0) (.cons (.k (.str "/")) .nil)))) (.cons (.set 2 (.prim .item (.cons (.v 1) (.cons (.k (.int 0)) .nil)))) (.cons (.set 3 (.prim .sliceFrom (.cons (.v 2) (.cons (.prim .int (.cons (.prim .eq (.cons (.prim .sliceTo (.cons (.v 2) (.cons (.k (.int 1)) .nil))) (.cons (.k (.str "-")) .nil))) .nil)) .nil)))) (.cons (.iff (.or (.prim .gt (.cons (.prim .len (.cons (.v 1) .nil)) (.cons (.k (.int 2)) .nil))) (.or (.not (.call "_law_figures" (.cons (.v 3) .nil))) (.prim .eq (.cons (.v 2) (.cons (.k (.str "-0")) .nil))))) (.cons (.ret (.k .non)) .nil) .nil) (.cons (.iff (.prim .eq (.cons (.prim .len (.cons (.v 1) .nil)) (.cons (.k (.int 1)) .nil))) (.cons (.ret (.tup (.cons (.prim .int (.cons (.v 2) .nil)) (.cons (.k (.int 1)) .nil)))) .nil) .nil) (.cons (.iff (.or (.not (.call "_law_figures" (.cons (.prim .item (.cons (.v 1) (.cons (.k (.int 1)) .nil))) .nil))) (.prim .lt (.cons (.prim .int (.cons (.prim .item (.cons (.v 1) (.cons (.k (.int 1)) .nil))) .nil)) (.cons (.k (.int 2)) .nil)))) (.cons (.ret (.k .non)) .nil) .nil) (.cons (.set 4 (.tup (.cons (.prim .int (.cons (.v 2) .nil)) (.cons (.prim .int (.cons (.prim .item (.cons (.v 1) (.cons (.k (.int 1)) .nil))) .nil)) .nil)))) (.cons (.iff (.prim .ne (.cons (.call "_law_low" (.cons (.prim .item (.cons (.v 4) (.cons (.k (.int 0)) .nil))) (.cons (.prim .item (.cons (.v 4) (.cons (.k (.int 1)) .nil))) .nil))) (.cons (.v 4) .nil))) (.cons (.ret (.k .non)) .nil) .nil) (.cons (.ret (.v 4)) .nil)))))))))
def c__law_place_of : CB := (.cons (.set 1 (.comp (.seq (.prim .split (.cons (.v 0) (.cons (.k (.str "..")) .nil)))) [2] false (.k (.bl true)) (.call "_law_number_of" (.cons (.v 2) .nil)))) (.cons (.iff (.or (.prim .inn (.cons (.k .non) (.cons (.v 1) .nil))) (.prim .gt (.cons (.prim .len (.cons (.v 1) .nil)) (.cons (.k (.int 2)) .nil)))) (.cons (.ret (.k .non)) .nil) .nil) (.cons (.iff (.prim .eq (.cons (.prim .len (.cons (.v 1) .nil)) (.cons (.k (.int 1)) .nil))) (.cons (.ret (.tup (.cons (.prim .item (.cons (.v 1) (.cons (.k (.int 0)) .nil))) (.cons (.prim .item (.cons (.v 1) (.cons (.k (.int 0)) .nil))) .nil)))) .nil) .nil) (.cons (.iff (.not (.call "_law_under" (.cons (.prim .item (.cons (.v 1) (.cons (.k (.int 0)) .nil))) (.cons (.prim .item (.cons (.v 1) (.cons (.k (.int 1)) .nil))) .nil)))) (.cons (.ret (.k .non)) .nil) .nil) (.cons (.ret (.tup (.cons (.prim .item (.cons (.v 1) (.cons (.k (.int 0)) .nil))) (.cons (.prim .item (.cons (.v 1) (.cons (.k (.int 1)) .nil))) .nil)))) .nil)))))
def c_law_v3 : CB := (.cons (.for (.range (.cons (.k (.int 0)) (.cons (.prim .max2 (.cons (.k (.int 1)) (.cons (.prim .min2 (.cons (.prim .len (.cons (.v 0) .nil)) (.cons (.k (.int 12)) .nil))) .nil))) (.cons (.k (.int 2)) .nil)))) [1] false (.cons (.set 2 (.call "_law_pack" (.cons (.v 0) (.cons (.v 1) .nil)))) (.cons (.set 3 (.call "_law_take" (.cons (.v 2) (.cons (.k (.int 3)) .nil)))) (.cons (.set 4 (.prim .join (.cons (.k (.str " ")) (.cons (.comp (.range (.cons (.prim .add (.cons (.k (.int 1)) (.cons (.call "_law_take" (.cons (.v 2) (.cons (.k (.int 6)) .nil))) .nil))) .nil)) [5] false (.k (.bl true)) (.call "_law_number_text" (.cons (.call "_law_number" (.cons (.v 2) (.cons (.k (.int 9)) .nil))) .nil))) .nil)))) (.cons (.iff (.prim .eq (.cons (.v 3) (.cons (.k (.int 1)) .nil))) (.cons (.set 4 (.prim .join (.cons (.k (.str ", ")) (.cons (.comp (.seq (.call "_law_loose_tube" (.cons (.v 2) (.cons (.k (.int 5)) (.cons (.k (.int 5)) .nil))))) [8] false (.k (.bl true)) (.call "_law_place_text" (.cons (.v 8) .nil))) .nil)))) .nil) .nil) (.cons (.iff (.prim .eq (.cons (.v 3) (.cons (.k (.int 2)) .nil))) (.cons (.set 4 (.prim .join (.cons (.k (.str "; ")) (.cons (.comp (.seq (.call "_law_jobs" (.cons (.v 2) (.cons (.k (.int 4)) .nil)))) [9] false (.k (.bl true)) (.call "_law_job_text" (.cons (.v 9) .nil))) .nil)))) .nil) .nil) (.cons (.for (.range (.cons (.k (.int 6)) .nil)) [5] false (.cons (.set 6 (.v 4)) (.cons (.for (.range (.cons (.call "_law_take" (.cons (.v 2) (.cons (.k (.int 3)) .nil))) .nil)) [7] false (.cons (.set 6 (.call "_law_bent" (.cons (.v 2) (.cons (.v 6) .nil)))) .nil)) (.cons (.iff (.not (.call "_law_right" (.cons (.v 3) (.cons (.v 6) .nil)))) (.cons (.ret (.k (.bl false))) .nil) .nil) .nil)))) .nil))))))) (.cons (.ret (.k (.bl true))) .nil))
def c__law_less_by : CB := (.cons (.ret (.call "_law_low" (.cons (.prim .sub (.cons (.prim .mul (.cons (.prim .item (.cons (.v 0) (.cons (.k (.int 0)) .nil))) (.cons (.prim .item (.cons (.v 1) (.cons (.k (.int 1)) .nil))) .nil))) (.cons (.prim .mul (.cons (.prim .item (.cons (.v 1) (.cons (.k (.int 0)) .nil))) (.cons (.prim .item (.cons (.v 0) (.cons (.k (.int 1)) .nil))) .nil))) .nil))) (.cons (.prim .mul (.cons (.prim .item (.cons (.v 0) (.cons (.k (.int 1)) .nil))) (.cons (.prim .item (.cons (.v 1) (.cons (.k (.int 1)) .nil))) .nil))) .nil)))) .nil)
def c__law_by : CB := (.cons (.ret (.call "_law_low" (.cons (.prim .mul (.cons (.prim .item (.cons (.v 0) (.cons (.k (.int 0)) .nil))) (.cons (.prim .item (.cons (.v 1) (.cons (.k (.int 0)) .nil))) .nil))) (.cons (.prim .mul (.cons (.prim .item (.cons (.v 0) (.cons (.k (.int 1)) .nil))) (.cons (.prim .item (.cons (.v 1) (.cons (.k (.int 1)) .nil))) .nil))) .nil)))) .nil)
def c_is_job_v1 : CB := (.cons (.iff (.or (.not (.prim (.isi "tuple") (.cons (.v 0) .nil))) (.or (.prim .ne (.cons (.prim .len (.cons (.v 0) .nil)) (.cons (.k (.int 3)) .nil))) (.or (.not (.call "is_whole" (.cons (.prim .item (.cons (.v 0) (.cons (.k (.int 0)) .nil))) .nil))) (.not (.call "is_whole" (.cons (.prim .item (.cons (.v 0) (.cons (.k (.int 1)) .nil))) .nil)))))) (.cons (.ret (.k (.bl false))) .nil) .nil) (.cons (.ret (.and (.chain3 .le .lt .le (.k (.int 0)) (.prim .item (.cons (.v 0) (.cons (.k (.int 0)) .nil))) (.prim .item (.cons (.v 0) (.cons (.k (.int 1)) .nil))) (.g "LAST_HOUR")) (.and (.call "is_number" (.cons (.prim .item (.cons (.v 0) (.cons (.k (.int 2)) .nil))) .nil)) (.call "is_less" (.cons (.g "NOUGHT") (.cons (.prim .item (.cons (.v 0) (.cons (.k (.int 2)) .nil))) .nil)))))) .nil))
def c__law_jobs_v2 : CB := (.cons (.set 2 (.lst .nil)) (.cons (.setT [3, 4] (.tup (.cons (.k (.int 0)) (.cons (.k (.int 0)) .nil)))) (.cons (.for (.range (.cons (.prim .add (.cons (.k (.int 1)) (.cons (.call "_law_take" (.cons (.v 0) (.cons (.v 1) .nil))) .nil))) .nil)) [5] false (.cons (.set 3 (.prim .min2 (.cons (.prim .add (.cons (.v 3) (.cons (.call "_law_take" (.cons (.v 0) (.cons (.k (.int 4)) .nil))) .nil))) (.cons (.k (.int 22)) .nil)))) (.cons (.set 4 (.prim .min2 (.cons (.prim .max2 (.cons (.prim .add (.cons (.v 4) (.cons (.call "_law_take" (.cons (.v 0) (.cons (.k (.int 3)) .nil))) .nil))) (.cons (.prim .add (.cons (.prim .add (.cons (.v 3) (.cons (.k (.int 1)) .nil))) (.cons (.call "_law_take" (.cons (.v 0) (.cons (.k (.int 4)) .nil))) .nil))) .nil))) (.cons (.k (.int 24)) .nil)))) (.cons (.ex (.mut .append 2 (.cons (.tup (.cons (.v 3) (.cons (.v 4) (.cons (.call "_law_low" (.cons (.prim .add (.cons (.k (.int 1)) (.cons (.call "_law_take" (.cons (.v 0) (.cons (.k (.int 30)) .nil))) .nil))) (.cons (.prim .item (.cons (.lst (.cons (.k (.int 1)) (.cons (.k (.int 1)) (.cons (.k (.int 2)) (.cons (.k (.int 3)) .nil))))) (.cons (.call "_law_take" (.cons (.v 0) (.cons (.k (.int 4)) .nil))) .nil))) .nil))) .nil)))) .nil))) .nil)))) (.cons (.ret (.prim .tuple (.cons (.v 2) .nil))) .nil))))
def c__law_told_v2 : CB := (.cons (.set 2 (.k .non)) (.cons (.tryRd (.cons (.set 2 (.tup (.cons (.k (.str "read")) (.cons (.callv 0 (.cons (.v 1) .nil)) .nil)))) .nil) "NoText" 3 2 "none" "part") (.cons (.ret (.v 2)) .nil)))
def c__law_job_of : CB := (.cons (.set 2 (.prim .split (.cons (.v 0) (.cons (.k (.str " ")) .nil)))) (.cons (.iff (.or (.prim .ne (.cons (.prim .len (.cons (.v 2) .nil)) (.cons (.k (.int 3)) .nil))) (.or (.not (.call "_law_figures" (.cons (.prim .item (.cons (.v 2) (.cons (.k (.int 0)) .nil))) .nil))) (.not (.call "_law_figures" (.cons (.prim .item (.cons (.v 2) (.cons (.k (.int 1)) .nil))) .nil))))) (.cons (.ret (.k .non)) .nil) .nil) (.cons (.setP3 [3, 4, 5] (.cons (.prim .int (.cons (.prim .item (.cons (.v 2) (.cons (.k (.int 0)) .nil))) .nil)) (.cons (.prim .int (.cons (.prim .item (.cons (.v 2) (.cons (.k (.int 1)) .nil))) .nil)) (.cons (.call "_law_number_of" (.cons (.prim .item (.cons (.v 2) (.cons (.k (.int 2)) .nil))) .nil)) .nil)))) (.cons (.iff (.or (.prim .isN (.cons (.v 5) .nil)) (.or (.prim .lt (.cons (.prim .item (.cons (.v 5) (.cons (.k (.int 0)) .nil))) (.cons (.k (.int 1)) .nil))) (.or (.prim .le (.cons (.v 4) (.cons (.v 3) .nil))) (.or (.prim .gt (.cons (.v 4) (.cons (.k (.int 24)) .nil))) (.prim .gt (.cons (.prim .len (.cons (.v 1) .nil)) (.cons (.k (.int 11)) .nil))))))) (.cons (.ret (.k .non)) .nil) .nil) (.cons (.iff (.and (.prim .ne (.cons (.v 1) (.cons (.lst .nil) .nil))) (.or (.prim .lt (.cons (.v 3) (.cons (.prim .item (.cons (.prim .item (.cons (.v 1) (.cons (.prim .neg (.cons (.k (.int 1)) .nil)) .nil))) (.cons (.k (.int 0)) .nil))) .nil))) (.prim .lt (.cons (.v 4) (.cons (.prim .item (.cons (.prim .item (.cons (.v 1) (.cons (.prim .neg (.cons (.k (.int 1)) .nil)) .nil))) (.cons (.k (.int 1)) .nil))) .nil))))) (.cons (.ret (.k .non)) .nil) .nil) (.cons (.ret (.tup (.cons (.v 3) (.cons (.v 4) (.cons (.v 5) .nil))))) .nil))))))
def c__law_due_v3 : CB := (.cons (.set 2 (.lst .nil)) (.cons (.set 3 (.spl 1 (.prim .item (.cons (.lst (.cons (.k (.str " ")) (.cons (.k (.str ", ")) (.cons (.k (.str "; ")) .nil)))) (.cons (.v 0) .nil))))) (.cons (.for (.range (.cons (.prim .len (.cons (.v 3) .nil)) .nil)) [4] false (.cons (.iff (.prim .eq (.cons (.v 0) (.cons (.k (.int 2)) .nil))) (.cons (.set 5 (.call "_law_job_of" (.cons (.prim .item (.cons (.v 3) (.cons (.v 4) .nil))) (.cons (.v 2) .nil)))) .nil) (.cons (.iff (.prim .eq (.cons (.v 0) (.cons (.k (.int 1)) .nil))) (.cons (.set 5 (.call "_law_place_of" (.cons (.prim .item (.cons (.v 3) (.cons (.v 4) .nil))) .nil))) .nil) (.cons (.set 5 (.call "_law_number_of" (.cons (.prim .item (.cons (.v 3) (.cons (.v 4) .nil))) .nil))) .nil)) .nil)) (.cons (.iff (.or (.prim .isN (.cons (.v 5) .nil)) (.prim .gt (.cons (.v 4) (.cons (.k (.int 24)) .nil)))) (.cons (.ret (.tup (.cons (.k (.str "none")) (.cons (.v 4) .nil)))) .nil) .nil) (.cons (.ex (.mut .append 2 (.cons (.v 5) .nil))) .nil)))) (.cons (.iff (.and (.prim .eq (.cons (.v 0) (.cons (.k (.int 1)) .nil))) (.prim .eq (.cons (.prim .len (.cons (.v 2) .nil)) (.cons (.k (.int 1)) .nil)))) (.cons (.ret (.tup (.cons (.k (.str "none")) (.cons (.k (.int 1)) .nil)))) .nil) .nil) (.cons (.ret (.tup (.cons (.k (.str "read")) (.cons (.prim .tuple (.cons (.v 2) .nil)) .nil)))) .nil)))))
def c__law_right_v14 : CB := (.cons (.set 2 (.call "_law_due" (.cons (.v 0) (.cons (.v 1) .nil)))) (.cons (.iff (.prim .ne (.cons (.call "_law_told" (.cons (.prim .item (.cons (.lst (.cons (.g "read_row") (.cons (.g "read_tube") (.cons (.g "read_jobs") .nil)))) (.cons (.v 0) .nil))) (.cons (.v 1) .nil))) (.cons (.v 2) .nil))) (.cons (.ret (.k (.bl false))) .nil) .nil) (.cons (.iff (.prim .eq (.cons (.prim .item (.cons (.v 2) (.cons (.k (.int 0)) .nil))) (.cons (.k (.str "none")) .nil))) (.cons (.ret (.k (.bl true))) .nil) .nil) (.cons (.set 3 (.callx (.prim .item (.cons (.lst (.cons (.g "show_row") (.cons (.g "show_tube") (.cons (.g "show_jobs") .nil)))) (.cons (.v 0) .nil))) (.cons (.prim .item (.cons (.v 2) (.cons (.k (.int 1)) .nil))) .nil))) (.cons (.iff (.or (.and (.prim .eq (.cons (.v 0) (.cons (.k (.int 1)) .nil))) (.prim .isnb (.cons (.call "is_tube" (.cons (.prim .item (.cons (.v 2) (.cons (.k (.int 1)) .nil))) .nil)) (.cons (.k (.bl true)) .nil)))) (.and (.prim .eq (.cons (.v 0) (.cons (.k (.int 2)) .nil))) (.prim .isnb (.cons (.call "is_jobs" (.cons (.prim .item (.cons (.v 2) (.cons (.k (.int 1)) .nil))) .nil)) (.cons (.k (.bl true)) .nil))))) (.cons (.ret (.k (.bl false))) .nil) .nil) (.cons (.ret (.prim .eq (.cons (.v 3) (.cons (.v 1) .nil)))) .nil))))))
end Ev

set_option Elab.async false
set_option linter.all false
set_option maxRecDepth 100000
set_option maxHeartbeats 0
namespace K87
open PySem PySem.Spec PyProof.Rows L2 Ev
def body : List Stmt := PySem.Challenge.pw_levelcord_k87_whole_texts_read_again.main.body
def gB (s : String) : Str × GK := (Str.ofString s, GK.blt)
def gF (s : String) : Str × GK := (Str.ofString s, GK.fn)
def gC (s : String) : Str × GK := (Str.ofString s, GK.cls)
def gV (s : String) : Str × GK := (Str.ofString s, GK.val)
def gkL0 : List (Str × GK) := [gB "len", gB "abs", gB "all", gB "any", gB "sum", gB "max", gB "min", gB "divmod", gB "int", gB "str", gB "tuple", gB "list"]
def gkL1 : List (Str × GK) := [gB "bool", gB "dict", gB "isinstance", gB "range", gB "enumerate", gB "zip", gB "sorted", gB "ValueError", gF "is_whole", gF "common", gF "is_number", gF "is_less"]
def gkL2 : List (Str × GK) := [gF "is_pair", gF "is_tube", gF "is_job", gF "is_jobs", gF "show_number", gF "are_figures", gF "number_in", gF "check_text", gF "show_row", gF "read_row", gF "show_place", gF "show_tube"]
def gkL3 : List (Str × GK) := [gF "place_in", gF "read_tube", gF "show_jobs", gF "job_in", gF "read_jobs", gF "_law_mixed", gF "_law_pack", gF "_law_take", gF "_law_low", gF "_law_more", gF "_law_number", gF "_law_width"]
def gkL4 : List (Str × GK) := [gF "_law_loose_tube", gF "_law_number_text", gF "_law_place_text", gF "_law_jobs", gF "_law_job_text", gF "_law_under", gF "_law_signs", gF "_law_bent", gF "_law_told", gF "_law_figures", gF "_law_number_of", gF "_law_place_of"]
def gkL5 : List (Str × GK) := [gF "_law_job_of", gF "_law_due", gF "_law_right", gF "law", gC "CordError", gC "NoText", gV "NOUGHT", gV "MOST_PLACES_tubes", gV "MOST_JOBS", gV "LAST_HOUR", gV "FIGURES", gV "MOST_PLACES_cordtexts"]
def gkL : List (Str × GK) := gkL0 ++ gkL1 ++ gkL2 ++ gkL3 ++ gkL4 ++ gkL5
def xfL : List (Str × Str) := [("NoText", "part")]
def fs0 : List Str := ["is_whole", "common", "is_number", "is_less", "is_pair", "is_tube", "is_job", "is_jobs", "show_number", "are_figures", "number_in", "check_text", "show_row", "read_row", "show_place", "show_tube", "place_in", "read_tube", "show_jobs", "job_in"]
def fs1 : List Str := ["read_jobs", "_law_mixed", "_law_pack", "_law_take", "_law_low", "_law_more", "_law_number", "_law_width", "_law_loose_tube", "_law_number_text", "_law_place_text", "_law_jobs", "_law_job_text", "_law_under", "_law_signs", "_law_bent", "_law_told", "_law_figures", "_law_number_of", "_law_place_of"]
def fs2 : List Str := ["_law_job_of", "_law_due", "_law_right", "law"]
def fsL : List Str := fs0 ++ fs1 ++ fs2
def csL : List Str := ["CordError", "NoText"]
def vsL : List (Str × D) := [("NOUGHT", .tup [(.int 0), (.int 1)]), ("MOST_PLACES_tubes", .int 25), ("MOST_JOBS", .int 12), ("LAST_HOUR", .int 24), ("FIGURES", .str "0123456789"), ("MOST_PLACES_cordtexts", .int 25)]
def T : Tb := { body := body, gk := gkL, xf := xfL, fl := ["part"], cs := csL, vals := vsL, fs := fsL }
def r_is_whole : Rw := ⟨5, "is_whole", ["thing"], 1, [0], c_is_whole, "is_whole"⟩
theorem ok_is_whole : RwOk T r_is_whole := ⟨⟨rfl, rfl, rfl, by decide +kernel, rfl, by decide +kernel, by decide +kernel⟩, by kernel_rfl, by decide, fun _ _ _ _ _ _ us hl => match us, hl with | [_], _ => rfl⟩
def r_common : Rw := ⟨6, "common", ["one", "other"], 2, [], c_common, "common"⟩
theorem ok_common : RwOk T r_common := ⟨⟨rfl, rfl, rfl, by decide +kernel, rfl, by decide +kernel, by decide +kernel⟩, by kernel_rfl, by decide, fun _ _ _ _ _ _ us hl => match us, hl with | [_, _], _ => rfl⟩
def r_is_number : Rw := ⟨7, "is_number", ["thing", "part"], 1, [0], c_is_number, "is_number"⟩
theorem ok_is_number : RwOk T r_is_number := ⟨⟨rfl, rfl, rfl, by decide +kernel, rfl, by decide +kernel, by decide +kernel⟩, by kernel_rfl, by decide, fun _ _ _ _ _ _ us hl => match us, hl with | [_], _ => rfl⟩
def r_is_less : Rw := ⟨8, "is_less", ["one", "other"], 2, [0, 1], c_is_less, "is_less"⟩
theorem ok_is_less : RwOk T r_is_less := ⟨⟨rfl, rfl, rfl, by decide +kernel, rfl, by decide +kernel, by decide +kernel⟩, by kernel_rfl, by decide, fun _ _ _ _ _ _ us hl => match us, hl with | [_, _], _ => rfl⟩
def r_is_pair : Rw := ⟨11, "is_pair", ["thing"], 1, [0], c_is_pair, "is_pair"⟩
theorem ok_is_pair : RwOk T r_is_pair := ⟨⟨rfl, rfl, rfl, by decide +kernel, rfl, by decide +kernel, by decide +kernel⟩, by kernel_rfl, by decide, fun _ _ _ _ _ _ us hl => match us, hl with | [_], _ => rfl⟩
def r_is_tube : Rw := ⟨12, "is_tube", ["thing", "pair"], 1, [0], c_is_tube, "is_tube"⟩
theorem ok_is_tube : RwOk T r_is_tube := ⟨⟨rfl, rfl, rfl, by decide +kernel, rfl, by decide +kernel, by decide +kernel⟩, by kernel_rfl, by decide, fun _ _ _ _ _ _ us hl => match us, hl with | [_], _ => rfl⟩
def r_is_job : Rw := ⟨16, "is_job", ["thing"], 1, [0], c_is_job_v1, "is_job"⟩
theorem ok_is_job : RwOk T r_is_job := ⟨⟨rfl, rfl, rfl, by decide +kernel, rfl, by decide +kernel, by decide +kernel⟩, by kernel_rfl, by decide, fun _ _ _ _ _ _ us hl => match us, hl with | [_], _ => rfl⟩
def r_is_jobs : Rw := ⟨17, "is_jobs", ["thing", "job", "later"], 1, [0], c_is_jobs, "is_jobs"⟩
theorem ok_is_jobs : RwOk T r_is_jobs := ⟨⟨rfl, rfl, rfl, by decide +kernel, rfl, by decide +kernel, by decide +kernel⟩, by kernel_rfl, by decide, fun _ _ _ _ _ _ us hl => match us, hl with | [_], _ => rfl⟩
def r_show_number : Rw := ⟨20, "show_number", ["one"], 1, [0], c_show_number, "show_number"⟩
theorem ok_show_number : RwOk T r_show_number := ⟨⟨rfl, rfl, rfl, by decide +kernel, rfl, by decide +kernel, by decide +kernel⟩, by kernel_rfl, by decide, fun _ _ _ _ _ _ us hl => match us, hl with | [_], _ => rfl⟩
def r_are_figures : Rw := ⟨21, "are_figures", ["text", "sign"], 1, [0], c_are_figures, "are_figures"⟩
theorem ok_are_figures : RwOk T r_are_figures := ⟨⟨rfl, rfl, rfl, by decide +kernel, rfl, by decide +kernel, by decide +kernel⟩, by kernel_rfl, by decide, fun _ _ _ _ _ _ us hl => match us, hl with | [_], _ => rfl⟩
def r_number_in : Rw := ⟨22, "number_in", ["text", "top", "stroke", "bottom", "figures"], 1, [0], c_number_in, "number_in"⟩
theorem ok_number_in : RwOk T r_number_in := ⟨⟨rfl, rfl, rfl, by decide +kernel, rfl, by decide +kernel, by decide +kernel⟩, by kernel_rfl, by decide, fun _ _ _ _ _ _ us hl => match us, hl with | [_], _ => rfl⟩
def r_check_text : Rw := ⟨25, "check_text", ["text"], 1, [0], c_check_text, "check_text"⟩
theorem ok_check_text : RwOk T r_check_text := ⟨⟨rfl, rfl, rfl, by decide +kernel, rfl, by decide +kernel, by decide +kernel⟩, by kernel_rfl, by decide, fun _ _ _ _ _ _ us hl => match us, hl with | [_], _ => rfl⟩
def r_show_row : Rw := ⟨26, "show_row", ["row", "one"], 1, [0], c_show_row, "show_row"⟩
theorem ok_show_row : RwOk T r_show_row := ⟨⟨rfl, rfl, rfl, by decide +kernel, rfl, by decide +kernel, by decide +kernel⟩, by kernel_rfl, by decide, fun _ _ _ _ _ _ us hl => match us, hl with | [_], _ => rfl⟩
def r_read_row : Rw := ⟨27, "read_row", ["text", "found", "place", "part", "one"], 1, [0], c_read_row_v1, "read_row"⟩
theorem ok_read_row : RwOk T r_read_row := ⟨⟨rfl, rfl, rfl, by decide +kernel, rfl, by decide +kernel, by decide +kernel⟩, by kernel_rfl, by decide, fun _ _ _ _ _ _ us hl => match us, hl with | [_], _ => rfl⟩
def r_show_place : Rw := ⟨28, "show_place", ["place", "low", "high"], 1, [0], c_show_place, "show_place"⟩
theorem ok_show_place : RwOk T r_show_place := ⟨⟨rfl, rfl, rfl, by decide +kernel, rfl, by decide +kernel, by decide +kernel⟩, by kernel_rfl, by decide, fun _ _ _ _ _ _ us hl => match us, hl with | [_], _ => rfl⟩
def r_show_tube : Rw := ⟨29, "show_tube", ["tube", "place"], 1, [0], c_show_tube, "show_tube"⟩
theorem ok_show_tube : RwOk T r_show_tube := ⟨⟨rfl, rfl, rfl, by decide +kernel, rfl, by decide +kernel, by decide +kernel⟩, by kernel_rfl, by decide, fun _ _ _ _ _ _ us hl => match us, hl with | [_], _ => rfl⟩
def r_place_in : Rw := ⟨30, "place_in", ["text", "low", "dots", "high", "one", "other"], 1, [0], c_place_in, "place_in"⟩
theorem ok_place_in : RwOk T r_place_in := ⟨⟨rfl, rfl, rfl, by decide +kernel, rfl, by decide +kernel, by decide +kernel⟩, by kernel_rfl, by decide, fun _ _ _ _ _ _ us hl => match us, hl with | [_], _ => rfl⟩
def r_read_tube : Rw := ⟨31, "read_tube", ["text", "found", "number", "part", "place"], 1, [0], c_read_tube, "read_tube"⟩
theorem ok_read_tube : RwOk T r_read_tube := ⟨⟨rfl, rfl, rfl, by decide +kernel, rfl, by decide +kernel, by decide +kernel⟩, by kernel_rfl, by decide, fun _ _ _ _ _ _ us hl => match us, hl with | [_], _ => rfl⟩
def r_show_jobs : Rw := ⟨32, "show_jobs", ["jobs", "arrival", "due", "work"], 1, [0], c_show_jobs, "show_jobs"⟩
theorem ok_show_jobs : RwOk T r_show_jobs := ⟨⟨rfl, rfl, rfl, by decide +kernel, rfl, by decide +kernel, by decide +kernel⟩, by kernel_rfl, by decide, fun _ _ _ _ _ _ us hl => match us, hl with | [_], _ => rfl⟩
def r_job_in : Rw := ⟨33, "job_in", ["text", "words"], 1, [0], c_job_in, "job_in"⟩
theorem ok_job_in : RwOk T r_job_in := ⟨⟨rfl, rfl, rfl, by decide +kernel, rfl, by decide +kernel, by decide +kernel⟩, by kernel_rfl, by decide, fun _ _ _ _ _ _ us hl => match us, hl with | [_], _ => rfl⟩
def r_read_jobs : Rw := ⟨34, "read_jobs", ["text", "found", "number", "part"], 1, [0], c_read_jobs, "read_jobs"⟩
theorem ok_read_jobs : RwOk T r_read_jobs := ⟨⟨rfl, rfl, rfl, by decide +kernel, rfl, by decide +kernel, by decide +kernel⟩, by kernel_rfl, by decide, fun _ _ _ _ _ _ us hl => match us, hl with | [_], _ => rfl⟩
def r__law_mixed : Rw := ⟨36, "_law_mixed", ["_law_cell"], 1, [0], c__law_mixed, "_law_mixed"⟩
theorem ok__law_mixed : RwOk T r__law_mixed := ⟨⟨rfl, rfl, rfl, by decide +kernel, rfl, by decide +kernel, by decide +kernel⟩, by kernel_rfl, by decide, fun _ _ _ _ _ _ us hl => match us, hl with | [_], _ => rfl⟩
def r__law_pack : Rw := ⟨37, "_law_pack", ["_law_script", "_law_k", "_law_found", "_law_at"], 2, [0, 1], c__law_pack, "_law_pack"⟩
theorem ok__law_pack : RwOk T r__law_pack := ⟨⟨rfl, rfl, rfl, by decide +kernel, rfl, by decide +kernel, by decide +kernel⟩, by kernel_rfl, by decide, fun _ _ _ _ _ _ us hl => match us, hl with | [_, _], _ => rfl⟩
def r__law_take : Rw := ⟨38, "_law_take", ["_law_pack_here", "_law_size", "_law_digit"], 2, [0, 1], c__law_take, "_law_take"⟩
theorem ok__law_take : RwOk T r__law_take := ⟨⟨rfl, rfl, rfl, by decide +kernel, rfl, by decide +kernel, by decide +kernel⟩, by kernel_rfl, by decide, fun _ _ _ _ _ _ us hl => match us, hl with | [_, _], _ => rfl⟩
def r__law_low : Rw := ⟨39, "_law_low", ["_law_top", "_law_bottom", "_law_one", "_law_other"], 2, [0, 1], c__law_low, "_law_low"⟩
theorem ok__law_low : RwOk T r__law_low := ⟨⟨rfl, rfl, rfl, by decide +kernel, rfl, by decide +kernel, by decide +kernel⟩, by kernel_rfl, by decide, fun _ _ _ _ _ _ us hl => match us, hl with | [_, _], _ => rfl⟩
def r__law_more : Rw := ⟨40, "_law_more", ["_law_one", "_law_other"], 2, [0, 1], c__law_more, "_law_more"⟩
theorem ok__law_more : RwOk T r__law_more := ⟨⟨rfl, rfl, rfl, by decide +kernel, rfl, by decide +kernel, by decide +kernel⟩, by kernel_rfl, by decide, fun _ _ _ _ _ _ us hl => match us, hl with | [_, _], _ => rfl⟩
def r__law_number : Rw := ⟨41, "_law_number", ["_law_pack_here", "_law_wide", "_law_bottom"], 2, [0, 1], c__law_number, "_law_number"⟩
theorem ok__law_number : RwOk T r__law_number := ⟨⟨rfl, rfl, rfl, by decide +kernel, rfl, by decide +kernel, by decide +kernel⟩, by kernel_rfl, by decide, fun _ _ _ _ _ _ us hl => match us, hl with | [_, _], _ => rfl⟩
def r__law_width : Rw := ⟨42, "_law_width", ["_law_pack_here", "_law_wide", "_law_pick"], 2, [0, 1], c__law_width, "_law_width"⟩
theorem ok__law_width : RwOk T r__law_width := ⟨⟨rfl, rfl, rfl, by decide +kernel, rfl, by decide +kernel, by decide +kernel⟩, by kernel_rfl, by decide, fun _ _ _ _ _ _ us hl => match us, hl with | [_, _], _ => rfl⟩
def r__law_loose_tube : Rw := ⟨43, "_law_loose_tube", ["_law_pack_here", "_law_most", "_law_wide", "_law_here", "_law_found", "_law_turn"], 3, [0, 1, 2], c__law_loose_tube, "_law_loose_tube"⟩
theorem ok__law_loose_tube : RwOk T r__law_loose_tube := ⟨⟨rfl, rfl, rfl, by decide +kernel, rfl, by decide +kernel, by decide +kernel⟩, by kernel_rfl, by decide, fun _ _ _ _ _ _ us hl => match us, hl with | [_, _, _], _ => rfl⟩
def r__law_number_text : Rw := ⟨44, "_law_number_text", ["_law_one", "_law_text"], 1, [0], c__law_number_text, "_law_number_text"⟩
theorem ok__law_number_text : RwOk T r__law_number_text := ⟨⟨rfl, rfl, rfl, by decide +kernel, rfl, by decide +kernel, by decide +kernel⟩, by kernel_rfl, by decide, fun _ _ _ _ _ _ us hl => match us, hl with | [_], _ => rfl⟩
def r__law_place_text : Rw := ⟨45, "_law_place_text", ["_law_place"], 1, [0], c__law_place_text, "_law_place_text"⟩
theorem ok__law_place_text : RwOk T r__law_place_text := ⟨⟨rfl, rfl, rfl, by decide +kernel, rfl, by decide +kernel, by decide +kernel⟩, by kernel_rfl, by decide, fun _ _ _ _ _ _ us hl => match us, hl with | [_], _ => rfl⟩
def r__law_jobs : Rw := ⟨46, "_law_jobs", ["_law_pack_here", "_law_most", "_law_found", "_law_arrival", "_law_due_here", "_law_turn"], 2, [0, 1], c__law_jobs_v2, "_law_jobs"⟩
theorem ok__law_jobs : RwOk T r__law_jobs := ⟨⟨rfl, rfl, rfl, by decide +kernel, rfl, by decide +kernel, by decide +kernel⟩, by kernel_rfl, by decide, fun _ _ _ _ _ _ us hl => match us, hl with | [_, _], _ => rfl⟩
def r__law_job_text : Rw := ⟨47, "_law_job_text", ["_law_job"], 1, [0], c__law_job_text, "_law_job_text"⟩
theorem ok__law_job_text : RwOk T r__law_job_text := ⟨⟨rfl, rfl, rfl, by decide +kernel, rfl, by decide +kernel, by decide +kernel⟩, by kernel_rfl, by decide, fun _ _ _ _ _ _ us hl => match us, hl with | [_], _ => rfl⟩
def r__law_under : Rw := ⟨48, "_law_under", ["_law_one", "_law_other"], 2, [0, 1], c__law_under, "_law_under"⟩
theorem ok__law_under : RwOk T r__law_under := ⟨⟨rfl, rfl, rfl, by decide +kernel, rfl, by decide +kernel, by decide +kernel⟩, by kernel_rfl, by decide, fun _ _ _ _ _ _ us hl => match us, hl with | [_, _], _ => rfl⟩
def r__law_signs : Rw := ⟨49, "_law_signs", ["_law_signs_here"], 0, [], c__law_signs, "_law_signs"⟩
theorem ok__law_signs : RwOk T r__law_signs := ⟨⟨rfl, rfl, rfl, by decide +kernel, rfl, by decide +kernel, by decide +kernel⟩, by kernel_rfl, by decide, fun _ _ _ _ _ _ us hl => match us, hl with | [], _ => rfl⟩
def r__law_bent : Rw := ⟨50, "_law_bent", ["_law_pack_here", "_law_text", "_law_at", "_law_odd", "_law_signs_here"], 2, [0, 1], c__law_bent, "_law_bent"⟩
theorem ok__law_bent : RwOk T r__law_bent := ⟨⟨rfl, rfl, rfl, by decide +kernel, rfl, by decide +kernel, by decide +kernel⟩, by kernel_rfl, by decide, fun _ _ _ _ _ _ us hl => match us, hl with | [_, _], _ => rfl⟩
def r__law_told : Rw := ⟨51, "_law_told", ["_law_ask", "_law_text", "_law_found", "e"], 2, [0, 1], c__law_told_v2, "_law_told"⟩
theorem ok__law_told : RwOk T r__law_told := ⟨⟨rfl, rfl, rfl, by decide +kernel, rfl, by decide +kernel, by decide +kernel⟩, by kernel_rfl, by decide, fun _ _ _ _ _ _ us hl => match us, hl with | [_, _], _ => rfl⟩
def r__law_figures : Rw := ⟨52, "_law_figures", ["_law_text", "_law_sign"], 1, [0], c__law_figures, "_law_figures"⟩
theorem ok__law_figures : RwOk T r__law_figures := ⟨⟨rfl, rfl, rfl, by decide +kernel, rfl, by decide +kernel, by decide +kernel⟩, by kernel_rfl, by decide, fun _ _ _ _ _ _ us hl => match us, hl with | [_], _ => rfl⟩
def r__law_number_of : Rw := ⟨53, "_law_number_of", ["_law_text", "_law_pieces", "_law_top", "_law_plain", "_law_one"], 1, [0], c__law_number_of, "_law_number_of"⟩
theorem ok__law_number_of : RwOk T r__law_number_of := ⟨⟨rfl, rfl, rfl, by decide +kernel, rfl, by decide +kernel, by decide +kernel⟩, by kernel_rfl, by decide, fun _ _ _ _ _ _ us hl => match us, hl with | [_], _ => rfl⟩
def r__law_place_of : Rw := ⟨54, "_law_place_of", ["_law_text", "_law_some", "_law_piece"], 1, [0], c__law_place_of, "_law_place_of"⟩
theorem ok__law_place_of : RwOk T r__law_place_of := ⟨⟨rfl, rfl, rfl, by decide +kernel, rfl, by decide +kernel, by decide +kernel⟩, by kernel_rfl, by decide, fun _ _ _ _ _ _ us hl => match us, hl with | [_], _ => rfl⟩
def r__law_job_of : Rw := ⟨55, "_law_job_of", ["_law_text", "_law_ahead", "_law_words", "_law_arrival", "_law_due_here", "_law_work"], 2, [0, 1], c__law_job_of, "_law_job_of"⟩
theorem ok__law_job_of : RwOk T r__law_job_of := ⟨⟨rfl, rfl, rfl, by decide +kernel, rfl, by decide +kernel, by decide +kernel⟩, by kernel_rfl, by decide, fun _ _ _ _ _ _ us hl => match us, hl with | [_, _], _ => rfl⟩
def r__law_due : Rw := ⟨56, "_law_due", ["_law_kind", "_law_text", "_law_found", "_law_pieces", "_law_place", "_law_one"], 2, [0, 1], c__law_due_v3, "_law_due"⟩
theorem ok__law_due : RwOk T r__law_due := ⟨⟨rfl, rfl, rfl, by decide +kernel, rfl, by decide +kernel, by decide +kernel⟩, by kernel_rfl, by decide, fun _ _ _ _ _ _ us hl => match us, hl with | [_, _], _ => rfl⟩
def r__law_right : Rw := ⟨57, "_law_right", ["_law_kind", "_law_text", "_law_due_here", "_law_shown"], 2, [0, 1], c__law_right_v14, "_law_right"⟩
theorem ok__law_right : RwOk T r__law_right := ⟨⟨rfl, rfl, rfl, by decide +kernel, rfl, by decide +kernel, by decide +kernel⟩, by kernel_rfl, by decide, fun _ _ _ _ _ _ us hl => match us, hl with | [_, _], _ => rfl⟩
def r_law : Rw := ⟨58, "law", ["_law_script", "_law_k", "_law_pack_here", "_law_kind", "_law_text", "_law_turn", "_law_some", "_law_step", "_law_place", "_law_job"], 1, [0], c_law_v3, "law"⟩
theorem ok_law : RwOk T r_law := ⟨⟨rfl, rfl, rfl, by decide +kernel, rfl, by decide +kernel, by decide +kernel⟩, by kernel_rfl, by decide, fun _ _ _ _ _ _ us hl => match us, hl with | [_], _ => rfl⟩
def rest : List Rw := [r__law_right, r__law_due, r__law_job_of, r__law_place_of, r__law_number_of, r__law_figures, r__law_told, r__law_bent, r__law_signs, r__law_under, r__law_job_text, r__law_jobs, r__law_place_text, r__law_number_text, r__law_loose_tube, r__law_width, r__law_number, r__law_more, r__law_low, r__law_take, r__law_pack, r__law_mixed, r_read_jobs, r_job_in, r_show_jobs, r_read_tube, r_place_in, r_show_tube, r_show_place, r_read_row, r_show_row, r_check_text, r_number_in, r_are_figures, r_show_number, r_is_jobs, r_is_job, r_is_tube, r_is_pair, r_is_less, r_is_number, r_common, r_is_whole]
theorem allCons {α : Type} {P : α → Prop} {a : α} {l : List α} (h : P a) (hl : ∀ r ∈ l, P r) : ∀ r ∈ a :: l, P r := fun r hr => by
  rcases List.mem_cons.mp hr with e | e
  · rw [e]; exact h
  · exact hl r e
theorem ok_all : ∀ r ∈ r_law :: rest, RwOk T r := allCons ok_law (allCons ok__law_right (allCons ok__law_due (allCons ok__law_job_of (allCons ok__law_place_of (allCons ok__law_number_of (allCons ok__law_figures (allCons ok__law_told (allCons ok__law_bent (allCons ok__law_signs (allCons ok__law_under (allCons ok__law_job_text (allCons ok__law_jobs (allCons ok__law_place_text (allCons ok__law_number_text (allCons ok__law_loose_tube (allCons ok__law_width (allCons ok__law_number (allCons ok__law_more (allCons ok__law_low (allCons ok__law_take (allCons ok__law_pack (allCons ok__law_mixed (allCons ok_read_jobs (allCons ok_job_in (allCons ok_show_jobs (allCons ok_read_tube (allCons ok_place_in (allCons ok_show_tube (allCons ok_show_place (allCons ok_read_row (allCons ok_show_row (allCons ok_check_text (allCons ok_number_in (allCons ok_are_figures (allCons ok_show_number (allCons ok_is_jobs (allCons ok_is_job (allCons ok_is_tube (allCons ok_is_pair (allCons ok_is_less (allCons ok_is_number (allCons ok_common (allCons ok_is_whole (fun _ h => nomatch h))))))))))))))))))))))))))))))))))))))))))))
def clsBody : Stmt → List Stmt
  | .ClassDef (body := b) .. => b
  | _ => []
def iniSt (i : Nat) : Stmt := (clsBody (body.getD i (.Pass ⟨0, 0, 0, 0⟩))).getD 0 (.Pass ⟨0, 0, 0, 0⟩)
theorem in_NoText : InOk T ("NoText", "part", iniSt 2) := ⟨fun FN R vV hm => ⟨_, init_ok (a := "self") (b := "part") (n := "part") FN ⟨rfl, rfl, rfl, by decide +kernel, rfl, by decide +kernel, by decide +kernel⟩ rfl (fun _ => rfl) R vV hm (by decide +kernel) (by decide +kernel) (by decide +kernel) (by decide +kernel) (by decide +kernel), FN.binds fun _ _ _ _ _ _ us hl => match us, hl with | [_, _], _ => rfl⟩⟩
def inis : List (Str × Str × Stmt) := [("NoText", "part", iniSt 2)]
theorem in_all : ∀ p ∈ inis, InOk T p := allCons in_NoText (fun _ h => nomatch h)
theorem in_has : ∀ c n, (c, n) ∈ T.xf → ∃ st, (c, n, st) ∈ inis := fun c n h => by
  have h : (c, n) ∈ inis.map (fun p => (p.1, p.2.1)) := h
  obtain ⟨⟨a, b, st⟩, h1, h2⟩ := List.mem_map.mp h
  cases h2
  exact ⟨st, h1⟩
theorem nm_all : nmB T (r_law :: rest) = true := by decide +kernel
def loose0 : List Str := ["CordError", "NoText", "NOUGHT", "is_whole", "common", "is_number", "is_less", "MOST_PLACES_tubes", "is_pair", "is_tube", "MOST_JOBS", "LAST_HOUR", "is_job", "is_jobs", "FIGURES", "show_number", "are_figures", "number_in", "MOST_PLACES_cordtexts", "check_text", "show_row", "read_row", "show_place", "show_tube", "place_in", "read_tube", "show_jobs", "job_in", "read_jobs", "_law_mixed"]
def loose1 : List Str := ["_law_pack", "_law_take", "_law_low", "_law_more", "_law_number", "_law_width", "_law_loose_tube", "_law_number_text", "_law_place_text", "_law_jobs", "_law_job_text", "_law_under", "_law_signs", "_law_bent", "_law_told", "_law_figures", "_law_number_of", "_law_place_of", "_law_job_of", "_law_due", "_law_right"]
abbrev loose : List Str := loose0 ++ loose1
abbrev R : PySem.W.OpenRow := PySem.W.OpenLaw.row PySem.Challenge.rw_levelcord_k87_whole_texts_read_again
def fnL : List He.DefD := inis.map iniD ++ (r_law :: rest).map (rwD T)
abbrev hk : PySem.W.Hook := hookX 4 [] fnL (allB T)
def ob (s : PySem.W.SharedT) : He.AlD × Bool := obsX 4 [] fnL (allB T) (HandSHeadRun.getT s)
theorem ob_eq (s : PySem.W.SharedT) : ob s = hk.obs s.abs := obsX_eq (HandSHeadRun.getT_eq s)
theorem run (w : World) : HandSHeadRun.RunEq R (PySem.W.view R.prog [58]) hk ob 60000 loose w := by
  intro os
  kernel_rfl
open PySem.W PySem.Calls in
theorem holds_of (h : ∀ ns : List Int, ns.length ≤ 63 → (∀ z ∈ ns, Builtin.Int.intBits z ≤ 1048576) → ∃ outs, runDef (semL T.gv rest) r_law.df [.val (.ro (ns.map .int))] = some (.ret (.val (.bl true)) outs)) : PySem.Challenge.rw_levelcord_k87_whole_texts_read_again.Holds := by
  w_on; o_law
  refine HandSHeadRun.head_any (r := OpenLaw.row PySem.Challenge.rw_levelcord_k87_whole_texts_read_again) (q := view (OpenLaw.row PySem.Challenge.rw_levelcord_k87_whole_texts_read_again).prog [58]) (H := hk) (ob := ob) (M := 60000) (loose := loose) (d := HandSHeadRun.topDef (OpenLaw.row PySem.Challenge.rw_levelcord_k87_whole_texts_read_again).prog 58) (kwd := []) ob_eq
    (by kernel_rfl) (fun s => by kernel_rfl) run (by kernel_rfl) (by kernel_rfl) (by kernel_rfl) (by rfl) (by first | assumption | decide +kernel) (by decide +kernel) ⟨rfl, rfl, rfl, rfl, rfl, by decide +kernel⟩ ?hw ?hc
  case hw => w_witness2
  case hc => exact law_end (l := PySem.Challenge.rw_levelcord_k87_whole_texts_read_again) (x := "_law_script") rfl (by kernel_rfl) (by kernel_rfl) rfl ok_all nm_all in_has in_all ⟨rfl, by decide, by decide⟩ h
end K87

set_option Elab.async false
set_option linter.all false
set_option maxRecDepth 100000
set_option maxHeartbeats 4000000
namespace Ev
open PySem PySem.Spec PyProof.Rows L2
section
variable {α β : Type}
@[simp, simp ↓] theorem bR_okS {a : α} {g : Sg} {f : α → Sg → Option (ER β)} : bR (some (.ok a g)) f = f a g := Eq.trans rfl rfl
@[simp, simp ↓] theorem bR_excS {e : Exn} {g : Sg} {f : α → Sg → Option (ER β)} : bR (some (.exc e g)) f = some (.exc e g) := Eq.trans rfl rfl
@[simp, simp ↓] theorem bS_okS {a : α} {g : Sg} {f : α → Sg → Option SR} : bS (some (.ok a g)) f = f a g := Eq.trans rfl rfl
@[simp, simp ↓] theorem bS_excS {e : Exn} {g : Sg} {f : α → Sg → Option SR} : bS (some (.exc e g)) f = some (.exc e g) := Eq.trans rfl rfl
@[simp, simp ↓] theorem seqS_nx {g : Sg} {f : Sg → Option SR} : seqS (some (.nx g)) f = f g := Eq.trans rfl rfl
@[simp, simp ↓] theorem seqS_ret {w : W} {g : Sg} {f : Sg → Option SR} : seqS (some (.ret w g)) f = some (.ret w g) := Eq.trans rfl rfl
@[simp, simp ↓] theorem seqS_exc {e : Exn} {g : Sg} {f : Sg → Option SR} : seqS (some (.exc e g)) f = some (.exc e g) := Eq.trans rfl rfl
@[simp, simp ↓] theorem ofO_some {a : α} {f : α → Option β} : ofO (some a) f = f a := Eq.trans rfl rfl
@[simp, simp ↓] theorem ofO_none {f : α → Option β} : ofO none f = none := Eq.trans rfl rfl
/-- a test's two ways: each a name, so that neither is walked before the test is known -/
def ifK (x y : Unit → α) (b : Bool) : α := match b with
  | true => x ()
  | false => y ()
theorem ifK_t {x y : Unit → α} {b : Bool} (h : b = true) : ifK x y b = x () := by rw [h]; rfl
theorem ifK_f {x y : Unit → α} {b : Bool} (h : b = false) : ifK x y b = y () := by rw [h]; rfl
end
noncomputable section
variable (F : Fe) (pin : List Nat) (g : Sg)
def kOk (w : W) (_ : Unit) : Option (ER W) := some (.ok w g)
def kEv (e : CE) (_ : Unit) : Option (ER W) := evE F e g
def kEvB (b : CB) (_ : Unit) : Option SR := evB F pin b g
def kV (d : D) : Option (ER W) := some (.ok (.val d) g)
def kTup2 (ds : List D) : Option (ER W) := some (.ok (.val (.tup ds)) g)
def kTup (as : List (W × Option Nat)) (g : Sg) : Option (ER W) := ofO (items as) (kTup2 g)
def kLst2 (ds : List D) : Option (ER W) := some (.ok (.lst ds) g)
def kLst (as : List (W × Option Nat)) (g : Sg) : Option (ER W) := ofO (items as) (kLst2 g)
def kMut3 (p : MP) (a : W × Option Nat) (as : List (W × Option Nat)) (g1 : Sg) : Option (ER W) := endM p (a :: as) g1
def kMut2 (p : MP) (es : CA) (a : W × Option Nat) (g0 : Sg) (_ : List D) : Option (ER W) := bR (evA F es g0) (kMut3 p a)
def kMut (p : MP) (es : CA) (a : W × Option Nat) (g0 : Sg) : Option (ER W) := ofO (isL a.1) (kMut2 F p es a g0)
def kCall2 (s : List W → Option FR) (as : List (W × Option Nat)) (g1 : Sg) : Option (ER W) := endC (some s) as g1
def kCall (es : CA) (g : Sg) (s : List W → Option FR) : Option (ER W) := bR (evA F es g) (kCall2 s)
def kCv (es : CA) (g : Sg) (f : Str) : Option (ER W) := ofO (F.fn f) (kCall F es g)
def kAnd (b : CE) (w : W) (g1 : Sg) : Option (ER W) := testW w g1 (ifK (kEv F g1 b) (kOk g1 w))
def kOr (b : CE) (w : W) (g1 : Sg) : Option (ER W) := testW w g1 (ifK (kOk g1 w) (kEv F g1 b))
def kNot2 (g1 : Sg) (t : Bool) : Option (ER W) := some (.ok (.val (.bl !t)) g1)
def kNot (w : W) (g1 : Sg) : Option (ER W) := testW w g1 (kNot2 g1)
def kIte (a b : CE) (w : W) (g1 : Sg) : Option (ER W) := testW w g1 (ifK (kEv F g1 a) (kEv F g1 b))
def kSl5 (i : Int) (x : W × Option Nat) (g3 : Sg) (j : Int) : Option (ER W) := endSl i j x g3
def kSl4 (i : Int) (x : W × Option Nat) (w2 : W) (g3 : Sg) : Option (ER W) := ofO (isI w2) (kSl5 i x g3)
def kSl3 (c : CE) (x : W × Option Nat) (g2 : Sg) (i : Int) : Option (ER W) := bR (evE F c g2) (kSl4 i x)
def kSl2 (c : CE) (x : W × Option Nat) (w : W) (g2 : Sg) : Option (ER W) := ofO (isI w) (kSl3 F c x g2)
def kSl1 (b c : CE) (x : W × Option Nat) (g1 : Sg) : Option (ER W) := bR (evE F b g1) (kSl2 F c x)
def kCh8 (t : Bool) : Option (ER W) := some (.ok (.val (.bl t)) g)
def kCh7 (q : P) (y : D) (g3 : Sg) (z : D) : Option (ER W) := ofO (cmpB q y z) (kCh8 g3)
def kCh6 (q : P) (y : D) (z : W) (g3 : Sg) : Option (ER W) := ofO (isV z) (kCh7 q y g3)
def kCh5 (q : P) (c : CE) (y : D) (g2 : Sg) (_ : Unit) : Option (ER W) := bR (evE F c g2) (kCh6 q y)
def kCh4 (p q : P) (c : CE) (x : D) (g2 : Sg) (y : D) : Option (ER W) := ofO (cmpB p x y) (ifK (kCh5 F q c y g2) (kOk g2 (.val (.bl false))))
def kCh3 (p q : P) (c : CE) (x : D) (y : W) (g2 : Sg) : Option (ER W) := ofO (isV y) (kCh4 F p q c x g2)
def kCh2 (p q : P) (b c : CE) (g1 : Sg) (x : D) : Option (ER W) := bR (evE F b g1) (kCh3 F p q c x)
def kCh1 (p q : P) (b c : CE) (x : W) (g1 : Sg) : Option (ER W) := ofO (isV x) (kCh2 F p q b c g1)
def k3a (r : P) (z : D) (g4 : Sg) (u : D) : Option (ER W) := ofO (cmpB r z u) (kCh8 g4)
def k39 (r : P) (z : D) (u : W) (g4 : Sg) : Option (ER W) := ofO (isV u) (k3a r z g4)
def k38 (r : P) (d : CE) (z : D) (g3 : Sg) (_ : Unit) : Option (ER W) := bR (evE F d g3) (k39 r z)
def k37 (q r : P) (d : CE) (y : D) (g3 : Sg) (z : D) : Option (ER W) := ofO (cmpB q y z) (ifK (k38 F r d z g3) (kOk g3 (.val (.bl false))))
def k36 (q r : P) (d : CE) (y : D) (z : W) (g3 : Sg) : Option (ER W) := ofO (isV z) (k37 F q r d y g3)
def k35 (q r : P) (c d : CE) (y : D) (g2 : Sg) (_ : Unit) : Option (ER W) := bR (evE F c g2) (k36 F q r d y)
def k34 (p q r : P) (c d : CE) (x : D) (g2 : Sg) (y : D) : Option (ER W) := ofO (cmpB p x y) (ifK (k35 F q r c d y g2) (kOk g2 (.val (.bl false))))
def k33 (p q r : P) (c d : CE) (x : D) (y : W) (g2 : Sg) : Option (ER W) := ofO (isV y) (k34 F p q r c d x g2)
def k32 (p q r : P) (b c d : CE) (g1 : Sg) (x : D) : Option (ER W) := bR (evE F b g1) (k33 F p q r c d x)
def k31 (p q r : P) (b c d : CE) (x : W) (g1 : Sg) : Option (ER W) := ofO (isV x) (k32 F p q r b c d g1)
def kComp (tg : List Nat) (tup : Bool) (c e : CE) (a : List D × List (W × Option Nat)) (g1 : Sg) : Option (ER W) := endL tg tup (evE F c) (evE F e) a.1 a.2 g1
def kC2 (a : W × Option Nat) (as : List (W × Option Nat)) (g2 : Sg) : Option (ER (List (W × Option Nat))) := some (.ok (a :: as) g2)
def kC1 (r : CA) (a : W × Option Nat) (g1 : Sg) : Option (ER (List (W × Option Nat))) := bR (evA F r g1) (kC2 a)
def kX3 (es : CA) (g1 : Sg) (s : List W → Option FR) : Option (ER W) := bR (evA F es g1) (kCall2 s)
def kX2 (es : CA) (g1 : Sg) (f : Str) : Option (ER W) := ofO (F.fn f) (kX3 F es g1)
def kX1 (es : CA) (w : W) (g1 : Sg) : Option (ER W) := ofO (fnW w) (kX2 F es g1)
def kSp4 (g1 : Sg) (w : W) : Option (ER W) := some (.ok w g1)
def kSp3 (x : Str) (g1 : Sg) (d : D) : Option (ER W) := ofO (prim .split [.str x, d]) (kSp4 g1)
def kSp2 (x : Str) (w : W) (g1 : Sg) : Option (ER W) := ofO (isV w) (kSp3 x g1)
def kSp1 (e : CE) (g : Sg) (x : Str) : Option (ER W) := bR (evE F e g) (kSp2 x)
def kL0 (i : Nat) (r : CA) (g : Sg) (_ : List D) : Option (ER (List (W × Option Nat))) := bR (evA F r g) (endLate i)
def kL3 (as : List (W × Option Nat)) (a : W × Option Nat) (g2 : Sg) : Option (ER (List (W × Option Nat))) := some (.ok (a :: as) g2)
def kL2 (i : Nat) (as : List (W × Option Nat)) (g1 : Sg) (_ : Unit) : Option (ER (List (W × Option Nat))) := bR (lend i g1) (kL3 as)
def kS3 (a : W × Option Nat) (g1 : Sg) (xs : List D) : Option (ER (List D × List (W × Option Nat))) := some (.ok (xs, [a]) g1)
def kS2 (a : W × Option Nat) (g1 : Sg) (d : D) : Option (ER (List D × List (W × Option Nat))) := ofO (seqD d) (kS3 a g1)
def kS1 (a : W × Option Nat) (g1 : Sg) : Option (ER (List D × List (W × Option Nat))) := ofO a.1.d (kS2 a g1)
def kN2 (a : W × Option Nat) (g1 : Sg) (d : D) : Option (ER (List D × List (W × Option Nat))) := ofO (walkE d) (kS3 a g1)
def kN1 (a : W × Option Nat) (g1 : Sg) : Option (ER (List D × List (W × Option Nat))) := ofO a.1.d (kN2 a g1)
def kR3 (as : List (W × Option Nat)) (g1 : Sg) (xs : List D) : Option (ER (List D × List (W × Option Nat))) := some (.ok (xs, []) (giveBack as g1))
def kR2 (as : List (W × Option Nat)) (g1 : Sg) (ds : List D) : Option (ER (List D × List (W × Option Nat))) := ofO (rangeOf ds) (kR3 as g1)
def kR1 (as : List (W × Option Nat)) (g1 : Sg) : Option (ER (List D × List (W × Option Nat))) := ofO (wds as) (kR2 as g1)
def kZ5 (x y : W × Option Nat) (g2 : Sg) (xs : List D) : Option (ER (List D × List (W × Option Nat))) := some (.ok (xs, [x, y]) g2)
def kZ4 (x y : W × Option Nat) (g2 : Sg) (d e : D) : Option (ER (List D × List (W × Option Nat))) := ofO (walkZ d e) (kZ5 x y g2)
def kZ3 (x y : W × Option Nat) (g2 : Sg) (d : D) : Option (ER (List D × List (W × Option Nat))) := ofO y.1.d (kZ4 x y g2 d)
def kZ2 (x y : W × Option Nat) (g2 : Sg) : Option (ER (List D × List (W × Option Nat))) := ofO x.1.d (kZ3 x y g2)
def kZ1 (b : CE) (x : W × Option Nat) (g1 : Sg) : Option (ER (List D × List (W × Option Nat))) := bR (argOf b g1 (evE F b g1)) (kZ2 x)
def kT2 (b : Bool) : Option (ER Bool) := some (.ok b g)
def kT1 (w : W) (g1 : Sg) : Option (ER Bool) := ofO (wtruth w) (kT2 g1)
def kP (as : List (W × Option Nat)) (w : W) : Option (ER W) := some (.ok w (giveBack as g))
def kE (as : List (W × Option Nat)) (g : Sg) : FR → Option (ER W)
  | .ret w os => some (.ok w (giveBack (outsTo as os) g))
  | .exc e os => some (.exc e (giveBack (outsTo as os) g))
def kM (t : Option Nat) (q : D × List D) : Option (ER W) := some (.ok (.val q.1) (giveBack [(.lst q.2, t)] g))
def kSet2 (is : List Nat) (g1 : Sg) (d : D) : Option SR := (setTgP pin is true d g1).map .nx
def kSetT (is : List Nat) (w : W) (g1 : Sg) : Option SR := ofO (isV w) (kSet2 pin is g1)
def kSetQ2 (is : List Nat) (g1 : Sg) (ds : List D) : Option SR := (setTgP pin is true (.tup ds) g1).map .nx
def kSetQ (is : List Nat) (as : List (W × Option Nat)) (g1 : Sg) : Option SR := ofO (parOf3 as) (kSetQ2 pin is g1)
def kSetP2 (is : List Nat) (g1 : Sg) (ds : List D) : Option SR := (setTgP pin is true (.tup ds) g1).map .nx
def kSetP (is : List Nat) (as : List (W × Option Nat)) (g1 : Sg) : Option SR := ofO (parOf as) (kSetP2 pin is g1)
def kSI5 (t : Option Nat) (g3 : Sg) (r : D × List D) : Option SR := some (.nx (giveBack [(.lst r.2, t)] g3))
def kSI4 (d : D) (xs : List D) (t : Option Nat) (g3 : Sg) (j : D) : Option SR := ofO (mprim .setItem xs [j, d]) (kSI5 t g3)
def kSI3 (d : D) (xs : List D) (t : Option Nat) (j : W) (g3 : Sg) : Option SR := ofO (isV j) (kSI4 d xs t g3)
def kSI2 (i : Nat) (ix : CE) (g1 : Sg) (d : D) : Option SR := bS (lend i g1) (setIG d (evE F ix))
def kSI1 (i : Nat) (ix : CE) (w : W) (g1 : Sg) : Option SR := ofO (freeze w) (kSI2 F i ix g1)
def kSA2 (i : Nat) (f : Str) (g1 : Sg) (d : D) : Option SR := setAG i f d g1
def kSA1 (i : Nat) (f : Str) (w : W) (g1 : Sg) : Option SR := ofO (freeze w) (kSA2 i f g1)
def kDm (i d : Nat) (w : W) (g1 : Sg) : Option SR := dmG pin i d g1 w
def kEx (_ : W) (g1 : Sg) : Option SR := some (.nx g1)
def kIf (a b : CB) (t : Bool) (g1 : Sg) : Option SR := ifK (kEvB F pin g1 a) (kEvB F pin g1 b) t
def kFor (tg : List Nat) (tup : Bool) (b : CB) (a : List D × List (W × Option Nat)) (g1 : Sg) : Option SR := bkS a.2 (forL (turnF pin tg tup (evB F pin b)) a.1 g1)
def kRet (w : W) (g1 : Sg) : Option SR := some (.ret w g1)
def kRs2 (c : Str) (f : Option Str) (g1 : Sg) (d : D) : Option SR := some (.exc ⟨c, f.map fun f => (f, d)⟩ g1)
def kRs (c : Str) (f : Option Str) (w : W) (g1 : Sg) : Option SR := ofO (isV w) (kRs2 c f g1)
def kTry (h : CB) (_ : Exn) (g1 : Sg) : Option SR := evB F pin h g1
def kCat2 (f : Exn → Sg → Option SR) (x : Exn) (_ : Unit) : Option SR := f x g
def kCat3 (x : Exn) (_ : Unit) : Option SR := some (.exc x g)
end
section
variable {F : Fe} {pin : List Nat} {g : Sg}
@[simp] theorem ifKe_t {e : CE} {y : Unit → Option (ER W)} {b : Bool} (h : b = true) : ifK (kEv F g e) y b = evE F e g := ifK_t h
@[simp] theorem ifKe_f {e : CE} {x : Unit → Option (ER W)} {b : Bool} (h : b = false) : ifK x (kEv F g e) b = evE F e g := ifK_f h
@[simp] theorem ifKo_t {w : W} {y : Unit → Option (ER W)} {b : Bool} (h : b = true) : ifK (kOk g w) y b = some (.ok w g) := ifK_t h
@[simp] theorem ifKo_f {w : W} {x : Unit → Option (ER W)} {b : Bool} (h : b = false) : ifK x (kOk g w) b = some (.ok w g) := ifK_f h
@[simp] theorem ifKb_t {e : CB} {y : Unit → Option SR} {b : Bool} (h : b = true) : ifK (kEvB F pin g e) y b = evB F pin e g := ifK_t h
@[simp] theorem ifKb_f {e : CB} {x : Unit → Option SR} {b : Bool} (h : b = false) : ifK x (kEvB F pin g e) b = evB F pin e g := ifK_f h
@[simp] theorem ifKc_t {q : P} {c : CE} {y' : D} {y : Unit → Option (ER W)} {b : Bool} (h : b = true) : ifK (kCh5 F q c y' g) y b = bR (evE F c g) (kCh6 q y') := ifK_t h
@[simp] theorem ifKx_t {f : Exn → Sg → Option SR} {x : Exn} {y : Unit → Option SR} {b : Bool} (h : b = true) : ifK (kCat2 g f x) y b = f x g := ifK_t h
@[simp] theorem ifKx_f {x : Exn} {y : Unit → Option SR} {b : Bool} (h : b = false) : ifK y (kCat3 g x) b = some (.exc x g) := ifK_f h
@[simp] theorem kV_ap {d : D} : kV g d = some (.ok (.val d) g) := Eq.trans rfl rfl
@[simp] theorem kTup2_ap {ds : List D} : kTup2 g ds = some (.ok (.val (.tup ds)) g) := Eq.trans rfl rfl
@[simp] theorem kTup_ap {as : List (W × Option Nat)} {g : Sg} : kTup as g = ofO (items as) (kTup2 g) := Eq.trans rfl rfl
@[simp] theorem kLst2_ap {ds : List D} : kLst2 g ds = some (.ok (.lst ds) g) := Eq.trans rfl rfl
@[simp] theorem kLst_ap {as : List (W × Option Nat)} {g : Sg} : kLst as g = ofO (items as) (kLst2 g) := Eq.trans rfl rfl
@[simp] theorem kMut3_ap {p : MP} {a : W × Option Nat} {as : List (W × Option Nat)} {g1 : Sg} : kMut3 p a as g1 = endM p (a :: as) g1 := Eq.trans rfl rfl
@[simp] theorem kMut2_ap {p : MP} {es : CA} {a : W × Option Nat} {g0 : Sg} {u_ : List D} : kMut2 F p es a g0 u_ = bR (evA F es g0) (kMut3 p a) := Eq.trans rfl rfl
@[simp] theorem kMut_ap {p : MP} {es : CA} {a : W × Option Nat} {g0 : Sg} : kMut F p es a g0 = ofO (isL a.1) (kMut2 F p es a g0) := Eq.trans rfl rfl
@[simp] theorem kCall2_ap {s : List W → Option FR} {as : List (W × Option Nat)} {g1 : Sg} : kCall2 s as g1 = endC (some s) as g1 := Eq.trans rfl rfl
@[simp] theorem kCall_ap {es : CA} {g : Sg} {s : List W → Option FR} : kCall F es g s = bR (evA F es g) (kCall2 s) := Eq.trans rfl rfl
@[simp] theorem kCv_ap {es : CA} {g : Sg} {f : Str} : kCv F es g f = ofO (F.fn f) (kCall F es g) := Eq.trans rfl rfl
@[simp] theorem kAnd_ap {b : CE} {w : W} {g1 : Sg} : kAnd F b w g1 = testW w g1 (ifK (kEv F g1 b) (kOk g1 w)) := Eq.trans rfl rfl
@[simp] theorem kOr_ap {b : CE} {w : W} {g1 : Sg} : kOr F b w g1 = testW w g1 (ifK (kOk g1 w) (kEv F g1 b)) := Eq.trans rfl rfl
@[simp] theorem kNot2_ap {g1 : Sg} {t : Bool} : kNot2 g1 t = some (.ok (.val (.bl !t)) g1) := Eq.trans rfl rfl
@[simp] theorem kNot_ap {w : W} {g1 : Sg} : kNot w g1 = testW w g1 (kNot2 g1) := Eq.trans rfl rfl
@[simp] theorem kIte_ap {a : CE} {b : CE} {w : W} {g1 : Sg} : kIte F a b w g1 = testW w g1 (ifK (kEv F g1 a) (kEv F g1 b)) := Eq.trans rfl rfl
@[simp] theorem kSl5_ap {i : Int} {x : W × Option Nat} {g3 : Sg} {j : Int} : kSl5 i x g3 j = endSl i j x g3 := Eq.trans rfl rfl
@[simp] theorem kSl4_ap {i : Int} {x : W × Option Nat} {w2 : W} {g3 : Sg} : kSl4 i x w2 g3 = ofO (isI w2) (kSl5 i x g3) := Eq.trans rfl rfl
@[simp] theorem kSl3_ap {c : CE} {x : W × Option Nat} {g2 : Sg} {i : Int} : kSl3 F c x g2 i = bR (evE F c g2) (kSl4 i x) := Eq.trans rfl rfl
@[simp] theorem kSl2_ap {c : CE} {x : W × Option Nat} {w : W} {g2 : Sg} : kSl2 F c x w g2 = ofO (isI w) (kSl3 F c x g2) := Eq.trans rfl rfl
@[simp] theorem kSl1_ap {b : CE} {c : CE} {x : W × Option Nat} {g1 : Sg} : kSl1 F b c x g1 = bR (evE F b g1) (kSl2 F c x) := Eq.trans rfl rfl
@[simp] theorem kCh8_ap {t : Bool} : kCh8 g t = some (.ok (.val (.bl t)) g) := Eq.trans rfl rfl
@[simp] theorem kCh7_ap {q : P} {y : D} {g3 : Sg} {z : D} : kCh7 q y g3 z = ofO (cmpB q y z) (kCh8 g3) := Eq.trans rfl rfl
@[simp] theorem kCh6_ap {q : P} {y : D} {z : W} {g3 : Sg} : kCh6 q y z g3 = ofO (isV z) (kCh7 q y g3) := Eq.trans rfl rfl
@[simp] theorem kCh4_ap {p : P} {q : P} {c : CE} {x : D} {g2 : Sg} {y : D} : kCh4 F p q c x g2 y = ofO (cmpB p x y) (ifK (kCh5 F q c y g2) (kOk g2 (.val (.bl false)))) := Eq.trans rfl rfl
@[simp] theorem kCh3_ap {p : P} {q : P} {c : CE} {x : D} {y : W} {g2 : Sg} : kCh3 F p q c x y g2 = ofO (isV y) (kCh4 F p q c x g2) := Eq.trans rfl rfl
@[simp] theorem kCh2_ap {p : P} {q : P} {b : CE} {c : CE} {g1 : Sg} {x : D} : kCh2 F p q b c g1 x = bR (evE F b g1) (kCh3 F p q c x) := Eq.trans rfl rfl
@[simp] theorem kCh1_ap {p : P} {q : P} {b : CE} {c : CE} {x : W} {g1 : Sg} : kCh1 F p q b c x g1 = ofO (isV x) (kCh2 F p q b c g1) := Eq.trans rfl rfl
@[simp] theorem k3a_ap {r : P} {z : D} {g4 : Sg} {u : D} : k3a r z g4 u = ofO (cmpB r z u) (kCh8 g4) := Eq.trans rfl rfl
@[simp] theorem k39_ap {r : P} {z : D} {u : W} {g4 : Sg} : k39 r z u g4 = ofO (isV u) (k3a r z g4) := Eq.trans rfl rfl
@[simp] theorem k37_ap {q r : P} {d : CE} {y : D} {g3 : Sg} {z : D} : k37 F q r d y g3 z = ofO (cmpB q y z) (ifK (k38 F r d z g3) (kOk g3 (.val (.bl false)))) := Eq.trans rfl rfl
@[simp] theorem k36_ap {q r : P} {d : CE} {y : D} {z : W} {g3 : Sg} : k36 F q r d y z g3 = ofO (isV z) (k37 F q r d y g3) := Eq.trans rfl rfl
@[simp] theorem k34_ap {p q r : P} {c d : CE} {x : D} {g2 : Sg} {y : D} : k34 F p q r c d x g2 y = ofO (cmpB p x y) (ifK (k35 F q r c d y g2) (kOk g2 (.val (.bl false)))) := Eq.trans rfl rfl
@[simp] theorem k33_ap {p q r : P} {c d : CE} {x : D} {y : W} {g2 : Sg} : k33 F p q r c d x y g2 = ofO (isV y) (k34 F p q r c d x g2) := Eq.trans rfl rfl
@[simp] theorem k32_ap {p q r : P} {b c d : CE} {g1 : Sg} {x : D} : k32 F p q r b c d g1 x = bR (evE F b g1) (k33 F p q r c d x) := Eq.trans rfl rfl
@[simp] theorem k31_ap {p q r : P} {b c d : CE} {x : W} {g1 : Sg} : k31 F p q r b c d x g1 = ofO (isV x) (k32 F p q r b c d g1) := Eq.trans rfl rfl
@[simp] theorem ifK38_t {r : P} {d : CE} {z : D} {y : Unit → Option (ER W)} {b : Bool} (h : b = true) : ifK (k38 F r d z g) y b = bR (evE F d g) (k39 r z) := ifK_t h
@[simp] theorem ifK35_t {q r : P} {c d : CE} {z : D} {y : Unit → Option (ER W)} {b : Bool} (h : b = true) : ifK (k35 F q r c d z g) y b = bR (evE F c g) (k36 F q r d z) := ifK_t h
@[simp] theorem kComp_ap {tg : List Nat} {tup : Bool} {c : CE} {e : CE} {a : List D × List (W × Option Nat)} {g1 : Sg} : kComp F tg tup c e a g1 = endL tg tup (evE F c) (evE F e) a.1 a.2 g1 := Eq.trans rfl rfl
@[simp] theorem kC2_ap {a : W × Option Nat} {as : List (W × Option Nat)} {g2 : Sg} : kC2 a as g2 = some (.ok (a :: as) g2) := Eq.trans rfl rfl
@[simp] theorem kC1_ap {r : CA} {a : W × Option Nat} {g1 : Sg} : kC1 F r a g1 = bR (evA F r g1) (kC2 a) := Eq.trans rfl rfl
@[simp] theorem kX3_ap {es : CA} {g1 : Sg} {s : List W → Option FR} : kX3 F es g1 s = bR (evA F es g1) (kCall2 s) := Eq.trans rfl rfl
@[simp] theorem kX2_ap {es : CA} {g1 : Sg} {f : Str} : kX2 F es g1 f = ofO (F.fn f) (kX3 F es g1) := Eq.trans rfl rfl
@[simp] theorem kX1_ap {es : CA} {w : W} {g1 : Sg} : kX1 F es w g1 = ofO (fnW w) (kX2 F es g1) := Eq.trans rfl rfl
@[simp] theorem kSp4_ap {g1 : Sg} {w : W} : kSp4 g1 w = some (.ok w g1) := Eq.trans rfl rfl
@[simp] theorem kSp3_ap {x : Str} {g1 : Sg} {d : D} : kSp3 x g1 d = ofO (prim .split [.str x, d]) (kSp4 g1) := Eq.trans rfl rfl
@[simp] theorem kSp2_ap {x : Str} {w : W} {g1 : Sg} : kSp2 x w g1 = ofO (isV w) (kSp3 x g1) := Eq.trans rfl rfl
@[simp] theorem kSp1_ap {e : CE} {g : Sg} {x : Str} : kSp1 F e g x = bR (evE F e g) (kSp2 x) := Eq.trans rfl rfl
@[simp] theorem kL0_ap {i : Nat} {r : CA} {g : Sg} {x : List D} : kL0 F i r g x = bR (evA F r g) (endLate i) := Eq.trans rfl rfl
@[simp] theorem kL3_ap {as : List (W × Option Nat)} {a : W × Option Nat} {g2 : Sg} : kL3 as a g2 = some (.ok (a :: as) g2) := Eq.trans rfl rfl
@[simp] theorem kL2_ap {i : Nat} {as : List (W × Option Nat)} {g1 : Sg} {u : Unit} : kL2 i as g1 u = bR (lend i g1) (kL3 as) := Eq.trans rfl rfl
@[simp] theorem endLate_ap {i : Nat} {as : List (W × Option Nat)} {g1 : Sg} : endLate i as g1 = ofO (valsA as) (kL2 i as g1) := Eq.trans rfl rfl
@[simp] theorem valsA_nil : valsA [] = some () := rfl
@[simp] theorem valsA_cons {d : D} {r : List (W × Option Nat)} : valsA ((.val d, none) :: r) = valsA r := rfl
@[simp] theorem kS3_ap {a : W × Option Nat} {g1 : Sg} {xs : List D} : kS3 a g1 xs = some (.ok (xs, [a]) g1) := Eq.trans rfl rfl
@[simp] theorem kS2_ap {a : W × Option Nat} {g1 : Sg} {d : D} : kS2 a g1 d = ofO (seqD d) (kS3 a g1) := Eq.trans rfl rfl
@[simp] theorem kS1_ap {a : W × Option Nat} {g1 : Sg} : kS1 a g1 = ofO a.1.d (kS2 a g1) := Eq.trans rfl rfl
@[simp] theorem kN2_ap {a : W × Option Nat} {g1 : Sg} {d : D} : kN2 a g1 d = ofO (walkE d) (kS3 a g1) := Eq.trans rfl rfl
@[simp] theorem kN1_ap {a : W × Option Nat} {g1 : Sg} : kN1 a g1 = ofO a.1.d (kN2 a g1) := Eq.trans rfl rfl
@[simp] theorem kR3_ap {as : List (W × Option Nat)} {g1 : Sg} {xs : List D} : kR3 as g1 xs = some (.ok (xs, []) (giveBack as g1)) := Eq.trans rfl rfl
@[simp] theorem kR2_ap {as : List (W × Option Nat)} {g1 : Sg} {ds : List D} : kR2 as g1 ds = ofO (rangeOf ds) (kR3 as g1) := Eq.trans rfl rfl
@[simp] theorem kR1_ap {as : List (W × Option Nat)} {g1 : Sg} : kR1 as g1 = ofO (wds as) (kR2 as g1) := Eq.trans rfl rfl
@[simp] theorem kZ5_ap {x : W × Option Nat} {y : W × Option Nat} {g2 : Sg} {xs : List D} : kZ5 x y g2 xs = some (.ok (xs, [x, y]) g2) := Eq.trans rfl rfl
@[simp] theorem kZ4_ap {x : W × Option Nat} {y : W × Option Nat} {g2 : Sg} {d : D} {e : D} : kZ4 x y g2 d e = ofO (walkZ d e) (kZ5 x y g2) := Eq.trans rfl rfl
@[simp] theorem kZ3_ap {x : W × Option Nat} {y : W × Option Nat} {g2 : Sg} {d : D} : kZ3 x y g2 d = ofO y.1.d (kZ4 x y g2 d) := Eq.trans rfl rfl
@[simp] theorem kZ2_ap {x : W × Option Nat} {y : W × Option Nat} {g2 : Sg} : kZ2 x y g2 = ofO x.1.d (kZ3 x y g2) := Eq.trans rfl rfl
@[simp] theorem kZ1_ap {b : CE} {x : W × Option Nat} {g1 : Sg} : kZ1 F b x g1 = bR (argOf b g1 (evE F b g1)) (kZ2 x) := Eq.trans rfl rfl
@[simp] theorem kT2_ap {b : Bool} : kT2 g b = some (.ok b g) := Eq.trans rfl rfl
@[simp] theorem kT1_ap {w : W} {g1 : Sg} : kT1 w g1 = ofO (wtruth w) (kT2 g1) := Eq.trans rfl rfl
@[simp] theorem kP_ap {as : List (W × Option Nat)} {w : W} : kP g as w = some (.ok w (giveBack as g)) := Eq.trans rfl rfl
@[simp] theorem kM_ap {t : Option Nat} {q : D × List D} : kM g t q = some (.ok (.val q.1) (giveBack [(.lst q.2, t)] g)) := Eq.trans rfl rfl
@[simp] theorem kSet2_ap {is : List Nat} {g1 : Sg} {d : D} : kSet2 pin is g1 d = (setTgP pin is true d g1).map .nx := Eq.trans rfl rfl
@[simp] theorem kSetT_ap {is : List Nat} {w : W} {g1 : Sg} : kSetT pin is w g1 = ofO (isV w) (kSet2 pin is g1) := Eq.trans rfl rfl
@[simp] theorem kSetQ2_ap {is : List Nat} {g1 : Sg} {ds : List D} : kSetQ2 pin is g1 ds = (setTgP pin is true (.tup ds) g1).map .nx := Eq.trans rfl rfl
@[simp] theorem kSetQ_ap {is : List Nat} {as : List (W × Option Nat)} {g1 : Sg} : kSetQ pin is as g1 = ofO (parOf3 as) (kSetQ2 pin is g1) := Eq.trans rfl rfl
@[simp] theorem kSetP2_ap {is : List Nat} {g1 : Sg} {ds : List D} : kSetP2 pin is g1 ds = (setTgP pin is true (.tup ds) g1).map .nx := Eq.trans rfl rfl
@[simp] theorem kSetP_ap {is : List Nat} {as : List (W × Option Nat)} {g1 : Sg} : kSetP pin is as g1 = ofO (parOf as) (kSetP2 pin is g1) := Eq.trans rfl rfl
@[simp] theorem kSI5_ap {t : Option Nat} {g3 : Sg} {r : D × List D} : kSI5 t g3 r = some (.nx (giveBack [(.lst r.2, t)] g3)) := Eq.trans rfl rfl
@[simp] theorem kSI4_ap {d : D} {xs : List D} {t : Option Nat} {g3 : Sg} {j : D} : kSI4 d xs t g3 j = ofO (mprim .setItem xs [j, d]) (kSI5 t g3) := Eq.trans rfl rfl
@[simp] theorem kSI3_ap {d : D} {xs : List D} {t : Option Nat} {j : W} {g3 : Sg} : kSI3 d xs t j g3 = ofO (isV j) (kSI4 d xs t g3) := Eq.trans rfl rfl
@[simp] theorem kSI2_ap {i : Nat} {ix : CE} {g1 : Sg} {d : D} : kSI2 F i ix g1 d = bS (lend i g1) (setIG d (evE F ix)) := Eq.trans rfl rfl
@[simp] theorem kSI1_ap {i : Nat} {ix : CE} {w : W} {g1 : Sg} : kSI1 F i ix w g1 = ofO (freeze w) (kSI2 F i ix g1) := Eq.trans rfl rfl
@[simp] theorem kSA2_ap {i : Nat} {f : Str} {g1 : Sg} {d : D} : kSA2 i f g1 d = setAG i f d g1 := Eq.trans rfl rfl
@[simp] theorem kSA1_ap {i : Nat} {f : Str} {w : W} {g1 : Sg} : kSA1 i f w g1 = ofO (freeze w) (kSA2 i f g1) := Eq.trans rfl rfl
@[simp] theorem kDm_ap {i : Nat} {d : Nat} {w : W} {g1 : Sg} : kDm pin i d w g1 = dmG pin i d g1 w := Eq.trans rfl rfl
@[simp] theorem kEx_ap {u_ : W} {g1 : Sg} : kEx u_ g1 = some (.nx g1) := Eq.trans rfl rfl
@[simp] theorem kIf_ap {a : CB} {b : CB} {t : Bool} {g1 : Sg} : kIf F pin a b t g1 = ifK (kEvB F pin g1 a) (kEvB F pin g1 b) t := Eq.trans rfl rfl
@[simp] theorem kFor_ap {tg : List Nat} {tup : Bool} {b : CB} {a : List D × List (W × Option Nat)} {g1 : Sg} : kFor F pin tg tup b a g1 = bkS a.2 (forL (turnF pin tg tup (evB F pin b)) a.1 g1) := Eq.trans rfl rfl
@[simp] theorem kRet_ap {w : W} {g1 : Sg} : kRet w g1 = some (.ret w g1) := Eq.trans rfl rfl
@[simp] theorem kRs2_ap {c : Str} {f : Option Str} {g1 : Sg} {d : D} : kRs2 c f g1 d = some (.exc ⟨c, f.map fun f => (f, d)⟩ g1) := Eq.trans rfl rfl
@[simp] theorem kRs_ap {c : Str} {f : Option Str} {w : W} {g1 : Sg} : kRs c f w g1 = ofO (isV w) (kRs2 c f g1) := Eq.trans rfl rfl
@[simp] theorem kTry_ap {h : CB} {u_ : Exn} {g1 : Sg} : kTry F pin h u_ g1 = evB F pin h g1 := Eq.trans rfl rfl
@[simp] theorem kE_ret {as : List (W × Option Nat)} {w : W} {os : List W} : kE as g (.ret w os) = some (.ok w (giveBack (outsTo as os) g)) := Eq.trans rfl rfl
@[simp] theorem kE_exc {as : List (W × Option Nat)} {e : Exn} {os : List W} : kE as g (.exc e os) = some (.exc e (giveBack (outsTo as os) g)) := Eq.trans rfl rfl
@[simp] theorem evE_k {d : D} : evE F (.k d) g = some (.ok (.val d) g) := rfl
@[simp] theorem evE_v {i : Nat} : evE F (.v i) g = getS i g := rfl
@[simp] theorem evE_g {x : Str} : evE F (.g x) g = ofO (F.gv x) (kV g) := rfl
@[simp] theorem evE_tup {es : CA} : evE F (.tup es) g = bR (evA F es g) kTup := rfl
@[simp] theorem evE_lst {es : CA} : evE F (.lst es) g = bR (evA F es g) kLst := rfl
@[simp] theorem evE_prim {p : P} {es : CA} : evE F (.prim p es) g = bR (evA F es g) (endP p) := rfl
@[simp] theorem evE_mut {p : MP} {i : Nat} {es : CA} : evE F (.mut p i es) g = bR (lend i g) (kMut F p es) := rfl
@[simp] theorem evE_call {f : Str} {es : CA} : evE F (.call f es) g = ofO (F.fn f) (kCall F es g) := rfl
@[simp] theorem fnW_fn {f : Str} : fnW (.val (.fn f)) = some f := rfl
@[simp] theorem strAt_s {i : Nat} {x : Str} (h : g[i]? = some (some (.val (.str x)))) : strAt i g = some x := by unfold strAt; rw [h]
@[simp] theorem evE_callx {e : CE} {es : CA} : evE F (.callx e es) g = bR (evE F e g) (kX1 F es) := rfl
@[simp] theorem evE_spl {i : Nat} {e : CE} : evE F (.spl i e) g = ofO (strAt i g) (kSp1 F e g) := rfl
@[simp] theorem argOf_callx {e : CE} {es : CA} {r : Option (ER W)} : argOf (.callx e es) g r = noTie r := rfl
@[simp] theorem argOf_spl {i : Nat} {e : CE} {r : Option (ER W)} : argOf (.spl i e) g r = noTie r := rfl
@[simp] theorem evE_callv {i : Nat} {es : CA} : evE F (.callv i es) g = ofO (isFn i g) (kCv F es g) := rfl
@[simp] theorem evE_fld {i : Nat} {f : Str} : evE F (.fld i f) g = ofO (fldOf i f g) (kV g) := rfl
@[simp] theorem evE_and {a b : CE} : evE F (.and a b) g = bR (evE F a g) (kAnd F b) := congrArg (bR (evE F a g)) (funext fun w => funext fun g1 => congrArg (testW w g1) (funext fun t => by cases t <;> rfl))
@[simp] theorem evE_or {a b : CE} : evE F (.or a b) g = bR (evE F a g) (kOr F b) := congrArg (bR (evE F a g)) (funext fun w => funext fun g1 => congrArg (testW w g1) (funext fun t => by cases t <;> rfl))
@[simp] theorem evE_not {a : CE} : evE F (.not a) g = bR (evE F a g) kNot := rfl
@[simp] theorem evE_ite {c a b : CE} : evE F (.ite c a b) g = bR (evE F c g) (kIte F a b) := congrArg (bR (evE F c g)) (funext fun w => funext fun g1 => congrArg (testW w g1) (funext fun t => by cases t <;> rfl))
@[simp] theorem evE_sl {a b c : CE} : evE F (.sl a b c) g = bR (argOf a g (evE F a g)) (kSl1 F b c) := rfl
@[simp] theorem evE_chain {p q : P} {a b c : CE} : evE F (.chain p q a b c) g = bR (evE F a g) (kCh1 F p q b c) := rfl
@[simp] theorem evE_chain3 {p q r : P} {a b c d : CE} : evE F (.chain3 p q r a b c d) g = bR (evE F a g) (k31 F p q r b c d) := by
  refine congrArg (bR (evE F a g)) (funext fun w => funext fun g1 => congrArg (ofO (isV w)) (funext fun x => congrArg (bR (evE F b g1)) (funext fun w2 => funext fun g2 => congrArg (ofO (isV w2)) (funext fun y => congrArg (ofO (cmpB p x y)) (funext fun t => ?_)))))
  cases t with
  | false => rfl
  | true =>
    refine congrArg (bR (evE F c g2)) (funext fun w3 => funext fun g3 => congrArg (ofO (isV w3)) (funext fun z => congrArg (ofO (cmpB q y z)) (funext fun t2 => ?_)))
    cases t2 <;> rfl
@[simp] theorem argOf_chain3 {p q r : P} {a b c d : CE} {x : Option (ER W)} : argOf (.chain3 p q r a b c d) g x = noTie x := rfl
@[simp] theorem evE_comp {it : CI} {tg : List Nat} {tup : Bool} {c e : CE} : evE F (.comp it tg tup c e) g = bR (evI F it g) (kComp F tg tup c e) := rfl
@[simp] theorem evA_nil : evA F .nil g = some (.ok [] g) := rfl
@[simp] theorem evA_cons {e : CE} {r : CA} : evA F (.cons e r) g = bR (argOf e g (evE F e g)) (kC1 F r) := rfl
@[simp] theorem evA_late {i : Nat} {r : CA} : evA F (.late i r) g = ofO (lstAt i g) (kL0 F i r g) := rfl
@[simp] theorem lstAt_l {i : Nat} {xs : List D} (h : g[i]? = some (some (.lst xs))) : lstAt i g = some xs := by unfold lstAt; rw [h]
@[simp] theorem argOf_v {i : Nat} {r : Option (ER W)} : argOf (.v i) g r = lend i g := rfl
@[simp] theorem argOf_k {d : D} {r : Option (ER W)} : argOf (.k d) g r = noTie r := rfl
@[simp] theorem argOf_g {x : Str} {r : Option (ER W)} : argOf (.g x) g r = noTie r := rfl
@[simp] theorem argOf_tup {es : CA} {r : Option (ER W)} : argOf (.tup es) g r = noTie r := rfl
@[simp] theorem argOf_lst {es : CA} {r : Option (ER W)} : argOf (.lst es) g r = noTie r := rfl
@[simp] theorem argOf_prim {p : P} {es : CA} {r : Option (ER W)} : argOf (.prim p es) g r = noTie r := rfl
@[simp] theorem argOf_mut {p : MP} {i : Nat} {es : CA} {r : Option (ER W)} : argOf (.mut p i es) g r = noTie r := rfl
@[simp] theorem argOf_call {f : Str} {es : CA} {r : Option (ER W)} : argOf (.call f es) g r = noTie r := rfl
@[simp] theorem argOf_callv {i : Nat} {es : CA} {r : Option (ER W)} : argOf (.callv i es) g r = noTie r := rfl
@[simp] theorem argOf_fld {i : Nat} {f : Str} {r : Option (ER W)} : argOf (.fld i f) g r = noTie r := rfl
@[simp] theorem argOf_and {a b : CE} {r : Option (ER W)} : argOf (.and a b) g r = noTie r := rfl
@[simp] theorem argOf_or {a b : CE} {r : Option (ER W)} : argOf (.or a b) g r = noTie r := rfl
@[simp] theorem argOf_not {a : CE} {r : Option (ER W)} : argOf (.not a) g r = noTie r := rfl
@[simp] theorem argOf_ite {a b c : CE} {r : Option (ER W)} : argOf (.ite a b c) g r = noTie r := rfl
@[simp] theorem argOf_sl {a b c : CE} {r : Option (ER W)} : argOf (.sl a b c) g r = noTie r := rfl
@[simp] theorem argOf_chain {p q : P} {a b c : CE} {r : Option (ER W)} : argOf (.chain p q a b c) g r = noTie r := rfl
@[simp] theorem argOf_comp {it : CI} {tg : List Nat} {tup : Bool} {c e : CE} {r : Option (ER W)} : argOf (.comp it tg tup c e) g r = noTie r := rfl
@[simp] theorem noTie_ok {w : W} : noTie (some (.ok w g)) = some (.ok (w, none) g) := rfl
@[simp] theorem noTie_exc {e : Exn} : noTie (some (.exc e g)) = some (.exc e g) := rfl
@[simp] theorem evI_seq {e : CE} : evI F (.seq e) g = bR (argOf e g (evE F e g)) kS1 := rfl
@[simp] theorem evI_range {es : CA} : evI F (.range es) g = bR (evA F es g) kR1 := rfl
@[simp] theorem evI_enum {e : CE} : evI F (.enum e) g = bR (argOf e g (evE F e g)) kN1 := rfl
@[simp] theorem evI_zip {a b : CE} : evI F (.zip a b) g = bR (argOf a g (evE F a g)) (kZ1 F b) := rfl
@[simp] theorem evT_eq {c : CE} : evT F c g = bR (evE F c g) kT1 := rfl
@[simp, simp ↓] theorem testW_bl {b : Bool} {f : Bool → Option (ER W)} : testW (.val (.bl b)) g f = f b := Eq.trans rfl rfl
@[simp] theorem wtruth_bl {b : Bool} : wtruth (.val (.bl b)) = some b := rfl
@[simp] theorem wd_val {d : D} : W.d (.val d) = some d := rfl
@[simp] theorem wd_lst {d : List D} : W.d (.lst d) = some (.lst d) := rfl
@[simp] theorem isV_val {d : D} : isV (.val d) = some d := rfl
@[simp] theorem isI_int {i : Int} : isI (.val (.int i)) = some i := rfl
@[simp] theorem isL_lst {d : List D} : isL (.lst d) = some d := rfl
@[simp] theorem intD_int {i : Int} : intD (.int i) = some i := rfl
@[simp] theorem freeze_val {d : D} : freeze (.val d) = some d := rfl
@[simp] theorem freeze_lst {d : List D} : freeze (.lst d) = some (.lst d) := rfl
@[simp] theorem freezes_nil : freezes [] = some [] := rfl
@[simp] theorem freezes_cons {w : W} {r : List W} {d : D} (h : freeze w = some d) : freezes (w :: r) = (freezes r).map (d :: ·) := by
  show (match freeze w, freezes r with
    | some d, some ds => some (d :: ds)
    | _, _ => none) = _
  rw [h]
  cases freezes r <;> rfl
@[simp] theorem lend_val {i : Nat} {d : D} (h : g[i]? = some (some (.val d))) : lend i g = some (.ok (.val d, none) g) := by unfold lend; rw [h]
@[simp] theorem lend_lst {i : Nat} {xs : List D} (h : g[i]? = some (some (.lst xs))) : lend i g = some (.ok (.lst xs, some i) (g.set i (some .out))) := by unfold lend; rw [h]
@[simp] theorem lend_ins {i : Nat} {c : Str} {xs : List (Str × D)} (h : g[i]? = some (some (.ins c xs))) : lend i g = some (.ok (.ins c xs, some i) (g.set i (some .out))) := by unfold lend; rw [h]
@[simp] theorem getS_val {i : Nat} {d : D} (h : g[i]? = some (some (.val d))) : getS i g = some (.ok (.val d) g) := by unfold getS; rw [h]
@[simp] theorem getS_lst {i : Nat} {xs : List D} (h : g[i]? = some (some (.lst xs))) : getS i g = some (.ok (.lst xs) (g.set i none)) := by unfold getS; rw [h]
@[simp] theorem wds_nil : wds [] = some [] := rfl
@[simp] theorem wds_cons {w : W} {t : Option Nat} {r : List (W × Option Nat)} {d : D} (h : w.d = some d) : wds ((w, t) :: r) = (wds r).map (d :: ·) := by
  show (match w.d, wds r with
    | some d, some ds => some (d :: ds)
    | _, _ => none) = _
  rw [h]
  cases wds r <;> rfl
@[simp] theorem gb_nil : giveBack [] g = g := rfl
@[simp] theorem gb_none {w : W} {r : List (W × Option Nat)} : giveBack ((w, none) :: r) g = giveBack r g := rfl
@[simp] theorem gb_some {w : W} {i : Nat} {r : List (W × Option Nat)} : giveBack ((w, some i) :: r) g = (giveBack r g).set i (some w) := rfl
@[simp] theorem ot_nil {os : List W} : outsTo [] os = [] := rfl
@[simp] theorem ot_cons {w : W} {t : Option Nat} {r : List (W × Option Nat)} {o : W} {os : List W} : outsTo ((w, t) :: r) (o :: os) = (o, t) :: outsTo r os := rfl
theorem endP_of {p : P} {as : List (W × Option Nat)} {ds : List D} (h : wds as = some ds) : endP p as g = ofO (prim p ds) (kP g as) := by
  unfold endP
  rw [h]
  dsimp only
  cases prim p ds <;> rfl
@[simp] theorem endP1 {p : P} {w : W} {t : Option Nat} {d : D} (h : w.d = some d) : endP p [(w, t)] g = ofO (prim1 p d) (kP g [(w, t)]) := by
  rw [endP_of (ds := [d]) (by simp [h])]
  rfl
@[simp] theorem endP2 {p : P} {w w2 : W} {t t2 : Option Nat} {d d2 : D} (h : w.d = some d) (h2 : w2.d = some d2) : endP p [(w, t), (w2, t2)] g = ofO (prim2 p d d2) (kP g [(w, t), (w2, t2)]) := by
  rw [endP_of (ds := [d, d2]) (by simp [h, h2])]
  rfl
theorem endC_of {s : List W → Option FR} {as : List (W × Option Nat)} {ws : List W} (e : as.map (·.1) = ws) : endC (some s) as g = ofO (s ws) (kE as g) := by
  subst e
  unfold endC
  dsimp only
  cases s (as.map (·.1)) with
  | none => rfl
  | some r => cases r <;> rfl
theorem endC_ret {s : List W → Option FR} {as : List (W × Option Nat)} {w : W} {os : List W} (e : s (as.map (·.1)) = some (.ret w os)) : endC (some s) as g = some (.ok w (giveBack (outsTo as os) g)) := by
  unfold endC
  dsimp only
  rw [e]
theorem endC_exc {s : List W → Option FR} {as : List (W × Option Nat)} {x : Exn} {os : List W} (e : s (as.map (·.1)) = some (.exc x os)) : endC (some s) as g = some (.exc x (giveBack (outsTo as os) g)) := by
  unfold endC
  dsimp only
  rw [e]
@[simp] theorem endC_eq {s : List W → Option FR} {as : List (W × Option Nat)} : endC (some s) as g = ofO (s (as.map (·.1))) (kE as g) := endC_of rfl
@[simp] theorem endM_eq {p : MP} {xs : List D} {t : Option Nat} {as : List (W × Option Nat)} {ds : List D} (h : freezes (as.map (·.1)) = some ds) : endM p ((.lst xs, t) :: as) g = ofO (mprim p xs ds) (kM g t) := by
  unfold endM
  dsimp only
  rw [h]
  dsimp only
  cases mprim p xs ds <;> rfl
@[simp] theorem evB_nil : evB F pin .nil g = some (.nx g) := by unfold evB; rfl
@[simp] theorem evB_cons {s : CS} {r : CB} : evB F pin (.cons s r) g = seqS (evS F pin s g) (evB F pin r) := by
  conv => lhs; unfold evB
@[simp] theorem evS_set {i : Nat} {e : CE} : evS F pin (.set i e) g = bS (evE F e g) (storeG pin i) := by
  conv => lhs; unfold evS
@[simp] theorem evS_setT {is : List Nat} {e : CE} : evS F pin (.setT is e) g = bS (evE F e g) (kSetT pin is) := by
  conv => lhs; unfold evS
  rfl
@[simp] theorem evS_setP {is : List Nat} {es : CA} : evS F pin (.setP is es) g = bS (evA F es g) (kSetP pin is) := by
  conv => lhs; unfold evS
  rfl
@[simp] theorem evS_setP3 {is : List Nat} {es : CA} : evS F pin (.setP3 is es) g = bS (evA F es g) (kSetQ pin is) := by
  conv => lhs; unfold evS
  rfl
@[simp] theorem evS_setI {i : Nat} {ix e : CE} : evS F pin (.setI i ix e) g = bS (evE F e g) (kSI1 F i ix) := by
  conv => lhs; unfold evS
  rfl
@[simp] theorem evS_setA {i : Nat} {f : Str} {e : CE} : evS F pin (.setA i f e) g = bS (evE F e g) (kSA1 i f) := by
  conv => lhs; unfold evS
  rfl
@[simp] theorem evS_dm {i d : Nat} {es : CA} : evS F pin (.dm i d es) g = bS (evE F (.prim .divmod es) g) (kDm pin i d) := by
  conv => lhs; unfold evS
  rfl
@[simp] theorem evS_ex {e : CE} : evS F pin (.ex e) g = bS (evE F e g) kEx := by
  conv => lhs; unfold evS
  rfl
@[simp] theorem evS_iff {c : CE} {a b : CB} : evS F pin (.iff c a b) g = bS (evT F c g) (kIf F pin a b) := by
  conv => lhs; unfold evS
  refine congrArg (bS (evT F c g)) (funext fun t => funext fun g1 => ?_)
  cases t <;> rfl
theorem evS_for {it : CI} {tg : List Nat} {tup : Bool} {b : CB} : evS F pin (.for it tg tup b) g = bS (evI F it g) (kFor F pin tg tup b) := by
  conv => lhs; unfold evS
  rfl
theorem evS_whl {c : CE} {b : CB} : evS F pin (.whl c b) g = whileS (evT F c) (evB F pin b) g := by
  conv => lhs; unfold evS
@[simp] theorem evS_ret {e : CE} : evS F pin (.ret e) g = bS (evE F e g) kRet := by
  conv => lhs; unfold evS
  rfl
@[simp] theorem evS_raise {c : Str} {f : Option Str} {e : CE} : evS F pin (.raise c f e) g = bS (evE F e g) (kRs c f) := by
  conv => lhs; unfold evS
  rfl
@[simp] theorem evS_tryAs {b : CB} {c : Str} {i j : Nat} : evS F pin (.tryAs b c i j) g = catchS c (evB F pin b g) (exStore pin i j) := by
  conv => lhs; unfold evS
@[simp] theorem evS_tryRd {b : CB} {c s f : Str} {i j : Nat} : evS F pin (.tryRd b c i j s f) g = catchS c (evB F pin b g) (exRead pin i j s f) := by
  conv => lhs; unfold evS
@[simp] theorem evS_tryOnly {b : CB} {c : Str} {h : CB} : evS F pin (.tryOnly b c h) g = catchS c (evB F pin b g) (kTry F pin h) := by
  conv => lhs; unfold evS
  rfl
@[simp] theorem evS_pass : evS F pin .pass g = some (.nx g) := by unfold evS; rfl
end
section
variable {a b c : D} {i j : Int} {x y : Str} {p q : Bool} {xs ys : List D}
@[simp] theorem prim1_neg : prim1 .neg a = pNeg a := rfl
@[simp] theorem prim1_abs : prim1 .abs a = pAbs a := rfl
@[simp] theorem prim1_isN : prim1 .isN a = some (.val (.bl (isNon a))) := rfl
@[simp] theorem prim1_isnotN : prim1 .isnotN a = some (.val (.bl (!isNon a))) := rfl
@[simp] theorem prim1_len : prim1 .len a = pLen a := rfl
@[simp] theorem prim1_int : prim1 .int a = pInt a := rfl
@[simp] theorem prim1_str : prim1 .str a = pStr a := rfl
@[simp] theorem prim1_tuple : prim1 .tuple a = pTuple a := rfl
@[simp] theorem prim1_list : prim1 .list a = pList a := rfl
@[simp] theorem prim1_all : prim1 .all a = pAll a := rfl
@[simp] theorem prim1_any : prim1 .any a = pAny a := rfl
@[simp] theorem prim1_isi {t : String} : prim1 (.isi t) a = ofB (isTy t a) := rfl
@[simp] theorem prim1_isc {t : Str} : prim1 (.isc t) a = pIsc t a := rfl
@[simp] theorem prim1_sum : prim1 .sum a = pSum a := rfl
@[simp] theorem prim2_add : prim2 .add a b = pAdd a b := rfl
@[simp] theorem prim2_sub : prim2 .sub a b = pSub a b := rfl
@[simp] theorem prim2_mul : prim2 .mul a b = pMul a b := rfl
@[simp] theorem prim2_fdiv : prim2 .fdiv a b = pFdiv a b := rfl
@[simp] theorem prim2_mod : prim2 .mod a b = pMod a b := rfl
@[simp] theorem prim2_pow : prim2 .pow a b = pPow a b := rfl
@[simp] theorem prim2_divmod : prim2 .divmod a b = pDm a b := rfl
@[simp] theorem prim2_eq : prim2 .eq a b = ofB (eqD a b) := rfl
@[simp] theorem prim2_ne : prim2 .ne a b = ofB ((eqD a b).map (!·)) := rfl
@[simp] theorem prim2_lt : prim2 .lt a b = pLt (fun i j => decide (i < j)) a b := rfl
@[simp] theorem prim2_le : prim2 .le a b = pLt (fun i j => decide (i ≤ j)) a b := rfl
@[simp] theorem prim2_gt : prim2 .gt a b = pLt (fun i j => decide (j < i)) a b := rfl
@[simp] theorem prim2_ge : prim2 .ge a b = pLt (fun i j => decide (j ≤ i)) a b := rfl
@[simp] theorem prim2_max : prim2 .max2 a b = pMm (fun i j => if j > i then j else i) a b := rfl
@[simp] theorem prim2_min : prim2 .min2 a b = pMm (fun i j => if j < i then j else i) a b := rfl
@[simp] theorem prim2_isb : prim2 .isb a b = pIsb a b := rfl
@[simp] theorem prim2_isnb : prim2 .isnb a b = pIsnb a b := rfl
@[simp] theorem pIsb_b : pIsb (.bl p) (.bl q) = some (.val (.bl (decide (p = q)))) := rfl
@[simp] theorem pIsnb_b : pIsnb (.bl p) (.bl q) = some (.val (.bl (!decide (p = q)))) := rfl
@[simp] theorem prim2_item : prim2 .item a b = pItem a b := rfl
@[simp] theorem prim2_inn : prim2 .inn a b = ofB (pIn a b) := rfl
@[simp] theorem prim2_notin : prim2 .notin a b = ofB ((pIn a b).map (!·)) := rfl
@[simp] theorem prim2_split : prim2 .split a b = pSplit a b := rfl
@[simp] theorem prim2_part : prim2 .part a b = pPart a b := rfl
@[simp] theorem prim2_join : prim2 .join a b = pJoin a b := rfl
@[simp] theorem prim2_index : prim2 .index a b = pIndex a b := rfl
@[simp] theorem prim2_sliceFrom : prim2 .sliceFrom a (.int i) = pSlice (some i) none a := rfl
@[simp] theorem prim2_sliceTo : prim2 .sliceTo a (.int i) = pSlice none (some i) a := rfl
@[simp] theorem vd_eq : vd a = some (.val a) := rfl
@[simp] theorem vi_eq : vi i = some (.val (.int i)) := rfl
@[simp] theorem vb_eq : vb p = some (.val (.bl p)) := rfl
@[simp] theorem ofB_someS : ofB (some p) = some (.val (.bl p)) := rfl
@[simp] theorem pAdd_i : pAdd (.int i) (.int j) = some (.val (.int (i + j))) := rfl
theorem pAdd_s (h : x.length + y.length ≤ sizeLine) : pAdd (.str x) (.str y) = some (.val (.str (x ++ y))) := if_pos h
theorem pAdd_t (h : xs.length + ys.length ≤ sizeLine) : pAdd (.tup xs) (.tup ys) = some (.val (.tup (xs ++ ys))) := if_pos h
theorem pAdd_l (h : xs.length + ys.length ≤ sizeLine) : pAdd (.lst xs) (.lst ys) = some (.lst (xs ++ ys)) := if_pos h
@[simp] theorem pSub_i : pSub (.int i) (.int j) = some (.val (.int (i - j))) := rfl
theorem pMul_i (h : okMul i j) : pMul (.int i) (.int j) = some (.val (.int (i * j))) := if_pos h
theorem pFdiv_i (h : okDiv j) : pFdiv (.int i) (.int j) = some (.val (.int (i.fdiv j))) := if_pos h
theorem pMod_i (h : j ≠ 0) : pMod (.int i) (.int j) = some (.val (.int (i.fmod j))) := if_pos h
theorem pDm_i (h : 0 < j) (h2 : okDiv j) : pDm (.int i) (.int j) = some (.val (.tup [.int (i / j), .int (i % j)])) := if_pos ⟨h, h2⟩
@[simp] theorem pLt_i {f : Int → Int → Bool} : pLt f (.int i) (.int j) = some (.val (.bl (f i j))) := rfl
@[simp] theorem pMm_i {f : Int → Int → Int} : pMm f (.int i) (.int j) = some (.val (.int (f i j))) := rfl
@[simp] theorem pNeg_i : pNeg (.int i) = some (.val (.int (-i))) := rfl
@[simp] theorem pAbs_i : pAbs (.int i) = some (.val (.int (if i < 0 then -i else i))) := rfl
@[simp] theorem pLen_t : pLen (.tup xs) = some (.val (.int xs.length)) := rfl
@[simp] theorem pLen_l : pLen (.lst xs) = some (.val (.int xs.length)) := rfl
@[simp] theorem pLen_r : pLen (.ro xs) = some (.val (.int xs.length)) := rfl
theorem pLen_s (h : x.length ≤ sizeLine) : pLen (.str x) = some (.val (.int x.length)) := if_pos h
@[simp] theorem pInt_i : pInt (.int i) = some (.val (.int i)) := rfl
@[simp] theorem pInt_b : pInt (.bl p) = some (.val (.int (if p then 1 else 0))) := rfl
@[simp] theorem pTuple_l : pTuple (.lst xs) = some (.val (.tup xs)) := rfl
@[simp] theorem pTuple_t : pTuple (.tup xs) = some (.val (.tup xs)) := rfl
@[simp] theorem pList_l : pList (.lst xs) = some (.lst xs) := rfl
@[simp] theorem pList_t : pList (.tup xs) = some (.lst xs) := rfl
theorem dBools_map {α : Type} (f : α → Bool) : ∀ l : List α, dBools (l.map fun a => .bl (f a)) = some (l.map f)
  | [] => rfl
  | a :: l => by
    show (dBools (l.map fun a => .bl (f a))).map (f a :: ·) = _
    rw [dBools_map f l]; rfl
theorem pAll_map {α : Type} (f : α → Bool) (l : List α) : pAll (.lst (l.map fun a => .bl (f a))) = some (.val (.bl (l.all f))) := by
  show (dBools _).bind _ = _
  rw [dBools_map]
  show some (W.val (.bl ((l.map f).all id))) = _
  rw [List.all_map]; rfl
theorem pAny_map {α : Type} (f : α → Bool) (l : List α) : pAny (.lst (l.map fun a => .bl (f a))) = some (.val (.bl (l.any f))) := by
  show (dBools _).bind _ = _
  rw [dBools_map]
  show some (W.val (.bl ((l.map f).any id))) = _
  rw [List.any_map]; rfl
@[simp] theorem pItem_t : pItem (.tup xs) (.int i) = ofO (atI xs i) vd := by
  show (atI xs i).bind vd = _
  cases atI xs i <;> rfl
@[simp] theorem pItem_l : pItem (.lst xs) (.int i) = ofO (atI xs i) vd := by
  show (atI xs i).bind vd = _
  cases atI xs i <;> rfl
theorem atI_nat {α : Type} {l : List α} (k : Nat) : atI l (k : Int) = l[k]? := by
  unfold atI ixN
  rw [if_pos (by omega)]
  split
  · rfl
  · rw [List.getElem?_eq_none (by omega)]; rfl
theorem atI_neg {α : Type} {l : List α} (k : Nat) (h0 : 0 < k) (h : k ≤ l.length) : atI l (-(k : Int)) = l[l.length - k]? := by
  unfold atI ixN
  rw [if_neg (by omega), if_pos (by omega)]
  show l[(-(k : Int) + l.length).toNat]? = _
  congr 1
  omega
@[simp] theorem atI0 {α : Type} {z : α} {r : List α} : atI (z :: r) 0 = some z := atI_nat 0
@[simp] theorem atI1 {α : Type} {z z1 : α} {r : List α} : atI (z :: z1 :: r) 1 = some z1 := atI_nat 1
@[simp] theorem atI2 {α : Type} {z z1 z2 : α} {r : List α} : atI (z :: z1 :: z2 :: r) 2 = some z2 := atI_nat 2
@[simp] theorem pSlice_t {lo hi : Option Int} : pSlice lo hi (.tup xs) = some (.val (.tup (cutD xs lo hi))) := rfl
@[simp] theorem pSlice_l {lo hi : Option Int} : pSlice lo hi (.lst xs) = some (.lst (cutD xs lo hi)) := rfl
@[simp] theorem pSlice_r {lo hi : Option Int} : pSlice lo hi (.ro xs) = some (.lst (cutD xs lo hi)) := rfl
theorem pSlice_s {lo hi : Option Int} (h : x.length ≤ sizeLine) : pSlice lo hi (.str x) = some (.val (.str (cutS x lo hi))) := if_pos h
@[simp] theorem isNon_non : isNon .non = true := rfl
@[simp] theorem isNon_bl : isNon (.bl p) = false := rfl
@[simp] theorem isNon_int : isNon (.int i) = false := rfl
@[simp] theorem isNon_str : isNon (.str x) = false := rfl
@[simp] theorem isNon_tup : isNon (.tup xs) = false := rfl
@[simp] theorem isNon_lst : isNon (.lst xs) = false := rfl
@[simp] theorem isNon_emp : isNon .emp = false := rfl
@[simp] theorem isNon_e0 : isNon (.exc0 x) = false := rfl
@[simp] theorem isNon_e1 : isNon (.exc1 x y a) = false := rfl
@[simp] theorem eqD_i : eqD (.int i) (.int j) = some (decide (i = j)) := by
  simp [eqD, D.toP, PyData.eqv, SeqAt.shaped, PyData.canLay0, PyData.depth]
  by_cases h : i = j <;> simp [h]
theorem eqD_s (h : PyData.strOk x = true) (h2 : PyData.strOk y = true) : eqD (.str x) (.str y) = some (decide (x = y)) := by
  simp [eqD, D.toP, PyData.eqv, SeqAt.shaped, PyData.canLay0, PyData.depth, h, h2]
  by_cases h : x = y <;> simp [h]
end
/-- a type's name asked -/
@[simp] theorem isTy_int {i : Int} : isTy "int" (.int i) = some true := rfl
@[simp] theorem isTy_int_b {b : Bool} : isTy "int" (.bl b) = some true := rfl
@[simp] theorem isTy_int_s {x : Str} : isTy "int" (.str x) = some false := rfl
@[simp] theorem isTy_int_n : isTy "int" .non = some false := rfl
@[simp] theorem isTy_int_t {xs : List D} : isTy "int" (.tup xs) = some false := rfl
@[simp] theorem isTy_int_l {xs : List D} : isTy "int" (.lst xs) = some false := rfl
@[simp] theorem isTy_int_e : isTy "int" .emp = some false := rfl
@[simp] theorem isTy_bool {i : Int} : isTy "bool" (.int i) = some false := rfl
@[simp] theorem isTy_bool_b {b : Bool} : isTy "bool" (.bl b) = some true := rfl
@[simp] theorem isTy_bool_s {x : Str} : isTy "bool" (.str x) = some false := rfl
@[simp] theorem isTy_bool_n : isTy "bool" .non = some false := rfl
@[simp] theorem isTy_bool_t {xs : List D} : isTy "bool" (.tup xs) = some false := rfl
@[simp] theorem isTy_bool_l {xs : List D} : isTy "bool" (.lst xs) = some false := rfl
@[simp] theorem isTy_bool_e : isTy "bool" .emp = some false := rfl
@[simp] theorem isTy_tup {i : Int} : isTy "tuple" (.int i) = some false := rfl
@[simp] theorem isTy_tup_b {b : Bool} : isTy "tuple" (.bl b) = some false := rfl
@[simp] theorem isTy_tup_s {x : Str} : isTy "tuple" (.str x) = some false := rfl
@[simp] theorem isTy_tup_n : isTy "tuple" .non = some false := rfl
@[simp] theorem isTy_tup_t {xs : List D} : isTy "tuple" (.tup xs) = some true := rfl
@[simp] theorem isTy_tup_l {xs : List D} : isTy "tuple" (.lst xs) = some false := rfl
@[simp] theorem isTy_tup_e : isTy "tuple" .emp = some false := rfl
@[simp] theorem isTy_str {i : Int} : isTy "str" (.int i) = some false := rfl
@[simp] theorem isTy_str_b {b : Bool} : isTy "str" (.bl b) = some false := rfl
@[simp] theorem isTy_str_s {x : Str} : isTy "str" (.str x) = some true := rfl
@[simp] theorem isTy_str_n : isTy "str" .non = some false := rfl
@[simp] theorem isTy_str_t {xs : List D} : isTy "str" (.tup xs) = some false := rfl
@[simp] theorem isTy_str_l {xs : List D} : isTy "str" (.lst xs) = some false := rfl
@[simp] theorem isTy_str_e : isTy "str" .emp = some false := rfl
section
variable {F : Fe} {pin : List Nat} {g : Sg}
@[simp] theorem storeG_someS {i : Nat} {w w0 : W} (h : g[i]? = some (some w0)) (ho : w0 ≠ .out) (hp : i ∉ pin) : storeG pin i w g = some (.nx (g.set i (some w))) := by
  unfold storeG
  rw [h]
  cases w0 with
  | out => exact absurd rfl ho
  | _ => dsimp only; rw [if_neg hp]
@[simp] theorem storeG_noneS {i : Nat} {w : W} (h : g[i]? = some none) (hp : i ∉ pin) : storeG pin i w g = some (.nx (g.set i (some w))) := by
  unfold storeG
  rw [h]
  dsimp only; rw [if_neg hp]
@[simp] theorem setAll_nil : setAll [] [] g = some g := rfl
@[simp] theorem setAll_some {i : Nat} {is : List Nat} {d : D} {ds : List D} {w : W} (h : g[i]? = some (some w)) (ho : w ≠ .out) : setAll (i :: is) (d :: ds) g = setAll is ds (g.set i (some (.val d))) := by
  conv => lhs; unfold setAll
  rw [h]
  cases w with
  | out => exact absurd rfl ho
  | _ => rfl
@[simp] theorem setAll_none {i : Nat} {is : List Nat} {d : D} {ds : List D} (h : g[i]? = some none) : setAll (i :: is) (d :: ds) g = setAll is ds (g.set i (some (.val d))) := by
  conv => lhs; unfold setAll
  rw [h]
@[simp] theorem setTg_f {tg : List Nat} {d : D} : setTg tg false d g = setAll tg [d] g := rfl
@[simp] theorem setTg_t {tg : List Nat} {ds : List D} : setTg tg true (.tup ds) g = setAll tg ds g := rfl
@[simp] theorem setTgP_eq {tg : List Nat} {tup : Bool} {d : D} (h : (tg.all fun i => !pin.contains i) = true) : setTgP pin tg tup d g = setTg tg tup d g := if_pos h
@[simp] theorem parOf3_eq {a b c : D} : parOf3 [(.val a, none), (.val b, none), (.val c, none)] = some [a, b, c] := rfl
@[simp] theorem parOf_eq {a b : D} : parOf [(.val a, none), (.val b, none)] = some [a, b] := rfl
@[simp] theorem items_eq {as : List (W × Option Nat)} (h : (as.all fun a => a.2.isNone) = true) (h2 : as.length ≤ 1000) : items as = freezes (as.map (·.1)) := if_pos ⟨h, h2⟩
@[simp] theorem val_ne_out {d : D} : (W.val d = W.out) = False := eq_false (by intro h; cases h)
@[simp] theorem lst_ne_out {d : List D} : (W.lst d = W.out) = False := eq_false (by intro h; cases h)
@[simp] theorem ins_ne_out {c : Str} {d : List (Str × D)} : (W.ins c d = W.out) = False := eq_false (by intro h; cases h)
@[simp] theorem turnF_eq {tg : List Nat} {tup : Bool} {b : Sg → Option SR} {d : D} : turnF pin tg tup b d g = ofO (setTgP pin tg tup d g) b := rfl
@[simp] theorem forL_nil {f : D → Sg → Option SR} : forL f [] g = some (.nx g) := rfl
theorem forL_cons {f : D → Sg → Option SR} {d : D} {ds : List D} : forL f (d :: ds) g = seqS (f d g) (forL f ds) := by
  conv => lhs; unfold forL
  cases f d g with
  | none => rfl
  | some r => cases r <;> rfl
@[simp] theorem seqD_t {xs : List D} : seqD (.tup xs) = some xs := rfl
@[simp] theorem seqD_l {xs : List D} : seqD (.lst xs) = some xs := rfl
@[simp] theorem seqD_r {xs : List D} : seqD (.ro xs) = some xs := rfl
@[simp] theorem walkE_l {xs : List D} : walkE (.lst xs) = some (enumD 0 xs) := rfl
@[simp] theorem walkZ_l {xs ys : List D} : walkZ (.lst xs) (.lst ys) = some (zipD xs ys) := rfl
@[simp] theorem walkZ_t {xs ys : List D} : walkZ (.tup xs) (.tup ys) = some (zipD xs ys) := rfl
@[simp] theorem bkS_nx {bk : List (W × Option Nat)} : bkS bk (some (.nx g)) = some (.nx (giveBack bk g)) := rfl
@[simp] theorem bkS_ret {bk : List (W × Option Nat)} {w : W} : bkS bk (some (.ret w g)) = some (.ret w (giveBack bk g)) := rfl
@[simp] theorem bkS_exc {bk : List (W × Option Nat)} {e : Exn} : bkS bk (some (.exc e g)) = some (.exc e (giveBack bk g)) := rfl
@[simp] theorem catchS_nx {c : Str} {f : Exn → Sg → Option SR} : catchS c (some (.nx g)) f = some (.nx g) := rfl
@[simp] theorem catchS_ret {c : Str} {w : W} {f : Exn → Sg → Option SR} : catchS c (some (.ret w g)) f = some (.ret w g) := rfl
@[simp] theorem catchS_exc {c : Str} {x : Exn} {f : Exn → Sg → Option SR} : catchS c (some (.exc x g)) f = ofO (subX x.c c) (ifK (kCat2 g f x) (kCat3 g x)) := congrArg (ofO (subX x.c c)) (funext fun b => by cases b <;> rfl)
def kWb (b : Sg → Option SR) (k : Sg → Option SR) (g1 : Sg) (_ : Unit) : Option SR := seqS (b g1) k
def kWn (g1 : Sg) (_ : Unit) : Option SR := some (.nx g1)
noncomputable def kWh (c : Sg → Option (ER Bool)) (b : Sg → Option SR) (t : Bool) (g1 : Sg) : Option SR := ifK (kWb b (whileS c b) g1) (kWn g1) t
@[simp] theorem kWh_t {c : Sg → Option (ER Bool)} {b : Sg → Option SR} {t : Bool} {g1 : Sg} (h : t = true) : kWh c b t g1 = seqS (b g1) (whileS c b) := ifK_t h
@[simp] theorem kWh_f {c : Sg → Option (ER Bool)} {b : Sg → Option SR} {t : Bool} {g1 : Sg} (h : t = false) : kWh c b t g1 = some (.nx g1) := ifK_f h
theorem whileS_step {c : Sg → Option (ER Bool)} {b : Sg → Option SR} : whileS c b g = bS (c g) (kWh c b) := by
  rw [whileS_eq]
  unfold wstep
  cases c g with
  | none => rfl
  | some r =>
    cases r with
    | exc x g => rfl
    | ok t g1 =>
      cases t with
      | false => rfl
      | true =>
        dsimp only [bS, kWh, ifK, kWb]
        cases b g1 with
        | none => rfl
        | some r => cases r <;> rfl
def outF (pin : List Nat) (g : Sg) : Nat → Nat → List W
  | _, 0 => []
  | i, n + 1 => outOf pin g i :: outF pin g (i + 1) n
theorem outF_eq (pin : List Nat) (g : Sg) : ∀ n i, outF pin g i n = (List.range' i n).map (outOf pin g)
  | 0, _ => rfl
  | n + 1, i => by
    rw [List.range'_succ, List.map_cons, ← outF_eq pin g n (i + 1)]
    rfl
def finS (np : Nat) (pin : List Nat) : Option SR → Option FR
  | some (.nx g) => some (.ret (.val .non) (outF pin g 0 np))
  | some (.ret w g) => some (.ret w (outF pin g 0 np))
  | some (.exc e g) => some (.exc e (outF pin g 0 np))
  | none => none
@[simp] theorem finS_nx {np : Nat} : finS np pin (some (.nx g)) = some (.ret (.val .non) (outF pin g 0 np)) := rfl
@[simp] theorem finS_ret {np : Nat} {w : W} : finS np pin (some (.ret w g)) = some (.ret w (outF pin g 0 np)) := rfl
@[simp] theorem finS_exc {np : Nat} {e : Exn} : finS np pin (some (.exc e g)) = some (.exc e (outF pin g 0 np)) := rfl
@[simp] theorem outF_zero {i : Nat} : outF pin g i 0 = [] := rfl
@[simp] theorem outF_succ {i n : Nat} : outF pin g i (n + 1) = outOf pin g i :: outF pin g (i + 1) n := rfl
@[simp] theorem outOf_pin {i : Nat} {w : W} (h : i ∈ pin) (hg : g[i]? = some (some w)) : outOf pin g i = w := by unfold outOf; rw [if_pos h, hg]
@[simp] theorem outOf_no {i : Nat} (h : i ∉ pin) : outOf pin g i = .out := by unfold outOf; rw [if_neg h]
theorem runDef_eq {np nn : Nat} {b : CB} {ws : List W} (h : ws.length = np) : runDef F ⟨np, nn, pin, b⟩ ws = finS np pin (evB F pin b (ws.map some ++ List.replicate (nn - np) none)) := by
  unfold runDef
  rw [if_pos h]
  have e : ∀ g, outsOf ⟨np, nn, pin, b⟩ g = outF pin g 0 np := fun g => by
    rw [outF_eq]
    unfold outsOf
    rw [List.range_eq_range']
  dsimp only
  cases evB F pin b (ws.map some ++ List.replicate (nn - np) none) with
  | none => rfl
  | some r => cases r <;> simp only [e, finS]
end
end Ev

set_option Elab.async false
set_option linter.all false
set_option maxRecDepth 100000
set_option maxHeartbeats 4000000
namespace Ev
open PySem PySem.Spec PyProof.Rows L2
theorem compL_map {f : D → Sg → Option (Option D × Sg)} {h : D → D} {g : Sg} : ∀ {ds : List D}, (∀ d ∈ ds, f d g = some (some (h d), g)) → compL f ds g = some (ds.map h, g)
  | [], _ => rfl
  | d :: ds, e => by
    unfold compL
    rw [e d List.mem_cons_self]
    dsimp only
    rw [compL_map (ds := ds) fun x hx => e x (List.mem_cons_of_mem _ hx)]
    rfl
theorem compL_fm {f : D → Sg → Option (Option D × Sg)} {h : D → Option D} {g : Sg} : ∀ {ds : List D}, (∀ d ∈ ds, f d g = some (h d, g)) → compL f ds g = some (ds.filterMap h, g)
  | [], _ => rfl
  | d :: ds, e => by
    unfold compL
    rw [e d List.mem_cons_self]
    dsimp only
    rw [compL_fm (ds := ds) fun x hx => e x (List.mem_cons_of_mem _ hx)]
    dsimp only
    rw [List.filterMap_cons]
    cases h d <;> rfl
theorem endL_map {tg : List Nat} {tup : Bool} {c e : Sg → Option (ER W)} {ds : List D} {bk : List (W × Option Nat)} {g1 g2 : Sg} (h : D → D) (hw : wipeG g1 tg = some g2) (ht : ∀ d ∈ ds, turnC tg tup c e d g2 = some (some (h d), g2)) (hl : ds.length ≤ 100000) :
    endL tg tup c e ds bk g1 = some (.ok (.lst (ds.map h)) (giveBack bk (restG g1 tg g2))) := by
  unfold endL
  rw [hw]
  dsimp only
  rw [compL_map ht]
  dsimp only
  rw [if_pos (by rw [List.length_map]; exact hl)]
theorem endL_fm {tg : List Nat} {tup : Bool} {c e : Sg → Option (ER W)} {ds : List D} {bk : List (W × Option Nat)} {g1 g2 : Sg} (h : D → Option D) (hw : wipeG g1 tg = some g2) (ht : ∀ d ∈ ds, turnC tg tup c e d g2 = some (h d, g2)) (hl : ds.length ≤ 100000) :
    endL tg tup c e ds bk g1 = some (.ok (.lst (ds.filterMap h)) (giveBack bk (restG g1 tg g2))) := by
  unfold endL
  rw [hw]
  dsimp only
  rw [compL_fm ht]
  dsimp only
  rw [if_pos (Nat.le_trans (List.length_filterMap_le ..) hl)]
section
variable {g : Sg} {c e : Sg → Option (ER W)} {tg : List Nat} {tup : Bool} {d : D}
@[simp] theorem wipeG_nil : wipeG g [] = some g := rfl
@[simp] theorem wipeG_one_n {i : Nat} (h : g[i]? = some none) : wipeG g [i] = some g := by
  unfold wipeG
  simp [wipeG, h]
@[simp] theorem wipeG_one_v {i : Nat} {d : D} (h : g[i]? = some (some (.val d))) : wipeG g [i] = some (g.set i none) := by
  unfold wipeG
  simp [wipeG, h]
@[simp] theorem restG_nil : restG g [] = fun x => x := rfl
@[simp] theorem restG_cons {g' : Sg} {i : Nat} {is : List Nat} : restG g (i :: is) g' = restG g is (g'.set i (g.getD i none)) := rfl
/-- a turn of a comprehension -/
def bC {β : Type} (m : Option (ER W)) (f : W → Sg → Option β) : Option β := match m with
  | some (.ok w g) => f w g
  | _ => none
@[simp, simp ↓] theorem bC_ok {β : Type} {w : W} {f : W → Sg → Option β} : bC (some (.ok w g)) f = f w g := Eq.trans rfl rfl
def fz2 (x : Option D) (h : Sg) : Option (Option D × Sg) := some (x, h)
def fz1 (h3 : Sg) (tg : List Nat) (x : D) : Option (Option D × Sg) := ofO (wipeG h3 tg) (fz2 (some x))
def fzW (tg : List Nat) (w : W) (h3 : Sg) : Option (Option D × Sg) := ofO (freeze w) (fz1 h3 tg)
def tC3 (e : Sg → Option (ER W)) (h2 : Sg) (tg : List Nat) (_ : Unit) : Option (Option D × Sg) := bC (e h2) (fzW tg)
def tC4 (h2 : Sg) (tg : List Nat) (_ : Unit) : Option (Option D × Sg) := ofO (wipeG h2 tg) (fz2 none)
def tC2 (e : Sg → Option (ER W)) (tg : List Nat) (w : W) (h2 : Sg) : Option (Option D × Sg) := ofO (wtruth w) (ifK (tC3 e h2 tg) (tC4 h2 tg))
def tC1 (c e : Sg → Option (ER W)) (tg : List Nat) (h1 : Sg) : Option (Option D × Sg) := bC (c h1) (tC2 e tg)
@[simp] theorem fz2_ap {x : Option D} {h : Sg} : fz2 x h = some (x, h) := Eq.trans rfl rfl
@[simp] theorem fz1_ap {h3 : Sg} {x : D} : fz1 h3 tg x = ofO (wipeG h3 tg) (fz2 (some x)) := Eq.trans rfl rfl
@[simp] theorem fzW_ap {w : W} {h3 : Sg} : fzW tg w h3 = ofO (freeze w) (fz1 h3 tg) := Eq.trans rfl rfl
@[simp] theorem tC2_ap {w : W} {h2 : Sg} : tC2 e tg w h2 = ofO (wtruth w) (ifK (tC3 e h2 tg) (tC4 h2 tg)) := Eq.trans rfl rfl
@[simp] theorem tC1_ap {h1 : Sg} : tC1 c e tg h1 = bC (c h1) (tC2 e tg) := Eq.trans rfl rfl
@[simp] theorem tC_t {h2 : Sg} {b : Bool} {y : Unit → Option (Option D × Sg)} (h : b = true) : ifK (tC3 e h2 tg) y b = bC (e h2) (fzW tg) := ifK_t h
@[simp] theorem tC_f {h2 : Sg} {b : Bool} {y : Unit → Option (Option D × Sg)} (h : b = false) : ifK y (tC4 h2 tg) b = ofO (wipeG h2 tg) (fz2 none) := ifK_f h
theorem turnC_eq : turnC tg tup c e d g = ofO (setTg tg tup d g) (tC1 c e tg) := by
  unfold turnC
  cases setTg tg tup d g with
  | none => rfl
  | some h1 =>
    dsimp only [ofO, tC1]
    cases c h1 with
    | none => rfl
    | some r =>
      cases r with
      | exc x g => rfl
      | ok w h2 =>
        dsimp only [bC, tC2]
        cases wtruth w with
        | none => rfl
        | some b =>
          cases b with
          | false =>
            dsimp only [ofO, ifK, tC4]
            cases wipeG h2 tg <;> rfl
          | true =>
            dsimp only [ofO, ifK, tC3]
            cases e h2 with
            | none => rfl
            | some r =>
              cases r with
              | exc x g => rfl
              | ok w2 h3 =>
                dsimp only [fzW, bC]
                cases freeze w2 with
                | none => rfl
                | some x =>
                  dsimp only [ofO, fz1]
                  cases wipeG h3 tg <;> rfl
end
theorem forL_inv {f : D → Sg → Option SR} (G : Nat → Sg) : ∀ (ds : List D) (k : Nat), (∀ (i : Nat) (d : D), ds[i]? = some d → f d (G (k + i)) = some (.nx (G (k + i + 1)))) → forL f ds (G k) = some (.nx (G (k + ds.length)))
  | [], k, _ => rfl
  | d :: ds, k, h => by
    rw [forL_cons, show f d (G k) = some (.nx (G (k + 1))) from h 0 d rfl, seqS_nx]
    have := forL_inv G ds (k + 1) fun i x hx => by
      have := h (i + 1) x (by simpa using hx)
      rw [show k + (i + 1) = k + 1 + i by omega] at this
      exact this
    rw [this, show k + 1 + ds.length = k + (d :: ds).length by simp; omega]
mutual
def plain : D → Bool
  | .non => true
  | .bl _ => true
  | .int _ => true
  | .str _ => true
  | .tup xs => plains xs
  | .lst xs => plains xs
  | .emp => true
  | _ => false
def plains : List D → Bool
  | [] => true
  | d :: ds => plain d && plains ds
end
theorem plains_mem : ∀ {ds : List D} {d : D}, plains ds = true → d ∈ ds → plain d = true
  | e :: ds, d, h, hm => by
    unfold plains at h
    obtain ⟨h1, h2⟩ := Bool.and_eq_true_iff.mp h
    rcases List.mem_cons.mp hm with rfl | hm
    · exact h1
    · exact plains_mem h2 hm
theorem plains_of : ∀ {ds : List D}, (∀ d ∈ ds, plain d = true) → plains ds = true
  | [], _ => rfl
  | e :: ds, h => by
    unfold plains
    rw [h e List.mem_cons_self, plains_of fun d hd => h d (List.mem_cons_of_mem _ hd)]
    rfl
def wholeD : D → Bool
  | .int _ => true
  | _ => false
theorem run_is_whole (F : Fe) {d : D} (h : plain d = true) : runDef F ⟨1, 1, [0], c_is_whole⟩ [.val d] = some (.ret (.val (.bl (wholeD d))) [.val d]) := by
  rw [runDef_eq (by rfl)]
  cases d <;> first | (unfold plain at h; cases h; done) | simp [c_is_whole, wholeD]
theorem gcd_step (a b : Int) : Int.gcd b (a.fmod b) = Int.gcd a b := by
  have e : a.fmod b = a - b * (a.fdiv b) := by have := Int.fmod_add_mul_fdiv a b; omega
  rw [e, Int.gcd_comm a b]
  rw [show a - b * a.fdiv b = a + b * -(a.fdiv b) by rw [Int.mul_neg]; omega]
  exact Int.gcd_add_mul_left_right ..
/-- the loop of two that are parted with a rest -/
def gcdC (x y : Nat) : CE := .prim .ne (.cons (.v y) (.cons (.k (.int 0)) .nil))
def gcdB (x y : Nat) : CB := .cons (.setP [x, y] (.cons (.v y) (.cons (.prim .mod (.cons (.v x) (.cons (.v y) .nil))) .nil))) .nil
theorem gcdC_ap {F : Fe} {x y : Nat} {g : Sg} : evE F (gcdC x y) g = evE F (.prim .ne (.cons (.v y) (.cons (.k (.int 0)) .nil))) g := rfl
theorem gcdB_ap {F : Fe} {pin : List Nat} {x y : Nat} {g : Sg} : evB F pin (gcdB x y) g = evB F pin (.cons (.setP [x, y] (.cons (.v y) (.cons (.prim .mod (.cons (.v x) (.cons (.v y) .nil))) .nil))) .nil) g := rfl
theorem gcd_loop01 (F : Fe) (pin : List Nat) (hp : 0 ∉ pin) (hp2 : 1 ∉ pin) : ∀ (n : Nat) (a b : Int) (r : Sg), 0 ≤ a → 0 ≤ b → b.natAbs ≤ n →
    whileS (evT F (gcdC 0 1)) (evB F pin (gcdB 0 1)) (some (.val (.int a)) :: some (.val (.int b)) :: r) = some (.nx (some (.val (.int (Int.gcd a b))) :: some (.val (.int 0)) :: r)) := by
  intro n
  induction n with
  | zero =>
    intro a b r ha hb h
    have hb0 : b = 0 := by omega
    subst hb0
    rw [whileS_step]
    simp [gcdC_ap, ha]
    omega
  | succ n ih =>
    intro a b r ha hb h
    rw [whileS_step]
    by_cases hb0 : b = 0
    · subst hb0
      simp [gcdC_ap, ha]
      omega
    · have h1 := Int.fmod_nonneg_of_pos a (by omega : 0 < b)
      have h2 := Int.fmod_lt_of_pos a (by omega : 0 < b)
      have := ih b (a.fmod b) r hb h1 (by omega)
      rw [gcd_step a b] at this
      simp [gcdC_ap, gcdB_ap, hb0, pMod_i, hp, hp2, this]
theorem gcd_loop23 (F : Fe) (pin : List Nat) (hp : 2 ∉ pin) (hp2 : 3 ∉ pin) : ∀ (n : Nat) (a b : Int) (x y : Option W) (r : Sg), 0 ≤ a → 0 ≤ b → b.natAbs ≤ n →
    whileS (evT F (gcdC 2 3)) (evB F pin (gcdB 2 3)) (x :: y :: some (.val (.int a)) :: some (.val (.int b)) :: r) = some (.nx (x :: y :: some (.val (.int (Int.gcd a b))) :: some (.val (.int 0)) :: r)) := by
  intro n
  induction n with
  | zero =>
    intro a b x y r ha hb h
    have hb0 : b = 0 := by omega
    subst hb0
    rw [whileS_step]
    simp [gcdC_ap, ha]
    omega
  | succ n ih =>
    intro a b x y r ha hb h
    rw [whileS_step]
    by_cases hb0 : b = 0
    · subst hb0
      simp [gcdC_ap, ha]
      omega
    · have h1 := Int.fmod_nonneg_of_pos a (by omega : 0 < b)
      have h2 := Int.fmod_lt_of_pos a (by omega : 0 < b)
      have := ih b (a.fmod b) x y r hb h1 (by omega)
      rw [gcd_step a b] at this
      simp [gcdC_ap, gcdB_ap, hb0, pMod_i, hp, hp2, this]
theorem abs_gcd (a b : Int) : Int.gcd (if a < 0 then -a else a) (if b < 0 then -b else b) = Int.gcd a b := by
  split <;> split <;> simp
theorem run_common (F : Fe) (a b : Int) : runDef F ⟨2, 2, [], c_common⟩ [.val (.int a), .val (.int b)] = some (.ret (.val (.int (Int.gcd a b))) [.out, .out]) := by
  have := gcd_loop01 F [] (by simp) (by simp) (if b < 0 then -b else b).natAbs (if a < 0 then -a else a) (if b < 0 then -b else b) [] (by split <;> omega) (by split <;> omega) (Nat.le_refl _)
  rw [abs_gcd] at this
  rw [runDef_eq (by rfl)]
  unfold gcdC gcdB at this
  simp [c_common, evS_whl, this]
end Ev

set_option Elab.async false
set_option linter.all false
set_option maxRecDepth 100000
set_option maxHeartbeats 4000000
namespace Ev
open PySem PySem.Spec PyProof.Rows L2
/-- a number as data -/
def nr (r : Rat) : D := .tup [.int r.num, .int r.den]
theorem nr_inj {a b : Rat} (h : nr a = nr b) : a = b := by
  unfold nr at h
  injection h with h
  injection h with h1 h2
  injection h1 with h1
  injection h2 with h2 _
  injection h2 with h2
  exact Rat.ext h1 (by omega)
theorem divInt_parts {a b : Int} (hb : 0 < b) : (Rat.divInt a b).num = a.fdiv (Int.gcd a b) ∧ ((Rat.divInt a b).den : Int) = b.fdiv (Int.gcd a b) := by
  have hg : (0 : Int) ≤ (Int.gcd a b : Int) := Int.natCast_nonneg _
  constructor
  · rw [Rat.num_divInt, Int.sign_eq_one_of_pos hb, Int.one_mul, Int.gcd_comm, Int.fdiv_eq_ediv_of_nonneg _ hg]
  · rw [Rat.den_divInt, if_neg (by omega), Int.natCast_ediv, Int.natAbs_of_nonneg (by omega), Int.gcd_comm, Int.fdiv_eq_ediv_of_nonneg _ hg]
theorem divInt_parts_neg {a b : Int} (hb : b < 0) : (Rat.divInt a b).num = a.fdiv (0 - (Int.gcd a b : Int)) ∧ ((Rat.divInt a b).den : Int) = b.fdiv (0 - (Int.gcd a b : Int)) := by
  obtain ⟨c, hc⟩ : ∃ c, c = -b := ⟨_, rfl⟩
  have hb' : b = -c := by omega
  have hc0 : 0 < c := by omega
  subst hb'
  have e : Rat.divInt a (-c) = Rat.divInt (-a) c := by rw [← Rat.neg_divInt_neg, Int.neg_neg]
  have g : Int.gcd a (-c) = Int.gcd (-a) c := by simp
  obtain ⟨h1, h2⟩ := divInt_parts (a := -a) hc0
  rw [e, g, h1, h2, Int.zero_sub]
  have n : ∀ x y : Int, (-x).fdiv y = x.fdiv (-y) := fun x y => by
    have := Int.neg_fdiv_neg x (-y)
    rw [Int.neg_neg] at this
    exact this
  refine ⟨n _ _, ?_⟩
  rw [n]
  simp
theorem gcd_pos {a b : Int} (hb : b ≠ 0) : 0 < Int.gcd a b := Int.gcd_pos_of_ne_zero_right a hb
theorem log_lt {n k : Nat} (h : n < 2 ^ k) (hk : 0 < k) : n.log2 < k := PySem.Flt.log2_lt_of hk h
theorem okDiv_of {j : Int} {k : Nat} (h0 : j ≠ 0) (h : j.natAbs < 2 ^ k) (hk : 0 < k) (hk2 : k ≤ 9000) : okDiv j := ⟨h0, Nat.lt_of_lt_of_le (log_lt h hk) hk2⟩
theorem okMul_of {i j : Int} {k m : Nat} (h : i.natAbs < 2 ^ k) (h2 : j.natAbs < 2 ^ m) (hk : 0 < k) (hm : 0 < m) (hs : k + m ≤ 100000000) : okMul i j := by
  have := log_lt h hk
  have := log_lt h2 hm
  unfold okMul
  omega
theorem gcd_le {a b : Int} (hb : b ≠ 0) : Int.gcd a b ≤ b.natAbs := Nat.le_of_dvd (by omega) (Int.gcd_dvd_natAbs_right a b)
theorem okDiv_gcd {a b : Int} (hb : b ≠ 0) (h : b.natAbs < 2 ^ 8000) : okDiv (Int.gcd a b : Int) :=
  okDiv_of (by have := gcd_pos (a := a) hb; omega) (by have := gcd_le (a := a) hb; rw [Int.natAbs_natCast]; omega) (k := 8000) (by decide) (by decide)
theorem okDiv_gcd_neg {a b : Int} (hb : b ≠ 0) (h : b.natAbs < 2 ^ 8000) : okDiv (0 - (Int.gcd a b : Int)) :=
  okDiv_of (by have := gcd_pos (a := a) hb; omega) (by have := gcd_le (a := a) hb; omega) (k := 8000) (by decide) (by decide)
theorem run_low (F : Fe) {a b : Int} (hb : b ≠ 0) (h : b.natAbs < 2 ^ 8000) : runDef F ⟨2, 4, [0, 1], c__law_low⟩ [.val (.int a), .val (.int b)] = some (.ret (.val (nr (Rat.divInt a b))) [.val (.int a), .val (.int b)]) := by
  have := gcd_loop23 F [0, 1] (by simp) (by simp) (if b < 0 then -b else b).natAbs (if a < 0 then -a else a) (if b < 0 then -b else b) (some (.val (.int a))) (some (.val (.int b))) [] (by split <;> omega) (by split <;> omega) (Nat.le_refl _)
  rw [abs_gcd] at this
  rw [runDef_eq (by rfl)]
  unfold gcdC gcdB at this
  by_cases h0 : b < 0
  · obtain ⟨h1, h2⟩ := divInt_parts_neg (a := a) h0
    have o := pFdiv_i (i := a) (okDiv_gcd_neg (a := a) hb h)
    have o2 := pFdiv_i (i := b) (okDiv_gcd_neg (a := a) hb h)
    unfold nr
    rw [h1, h2]
    rw [Int.zero_sub] at o o2 ⊢
    simp [c__law_low, evS_whl, h0] at this ⊢
    simp [this, o, o2, h0]
  · obtain ⟨h1, h2⟩ := divInt_parts (a := a) (b := b) (by omega)
    have o := pFdiv_i (i := a) (okDiv_gcd (a := a) hb h)
    have o2 := pFdiv_i (i := b) (okDiv_gcd (a := a) hb h)
    unfold nr
    rw [h1, h2]
    simp [c__law_low, evS_whl, h0] at this ⊢
    simp [this, o, o2, h0]
theorem run_take (F : Fe) {n k : Int} (h : 0 < k) (h2 : okDiv k) : runDef F ⟨2, 3, [0, 1], c__law_take⟩ [.lst [.int n], .val (.int k)] = some (.ret (.val (.int (n % k))) [.lst [.int (n / k)], .val (.int k)]) := by
  rw [runDef_eq (by rfl)]
  simp [c__law_take, pDm_i h h2, dmG]
/-- the text of these signs -/
def tx (l : List Nat) : Str := ⟨l.toArray⟩
theorem tx_S (l : List Nat) : tx l = SX.S l := rfl
@[simp] theorem tx_len (l : List Nat) : (tx l).length = l.length := SX.S_len l
@[simp] theorem tx_cat (a b : List Nat) : tx a ++ tx b = tx (a ++ b) := SX.S_cat a b
@[simp] theorem tx_inj {a b : List Nat} : tx a = tx b ↔ a = b := ⟨fun h => SX.S_inj h, fun h => by rw [h]⟩
def okL (l : List Nat) : Prop := ∀ c ∈ l, c < 256
theorem okL_app {a b : List Nat} : okL (a ++ b) ↔ okL a ∧ okL b := by
  unfold okL
  simp only [List.mem_append]
  exact ⟨fun h => ⟨fun c hc => h c (.inl hc), fun c hc => h c (.inr hc)⟩, fun h c hc => hc.elim (h.1 c) (h.2 c)⟩
theorem okL_cons {a : Nat} {b : List Nat} : okL (a :: b) ↔ a < 256 ∧ okL b := by
  unfold okL
  simp
theorem okL_nil : okL [] := fun _ h => nomatch h
theorem okL_take {l : List Nat} (n : Nat) (h : okL l) : okL (l.take n) := fun c hc => h c (List.mem_of_mem_take hc)
theorem okL_drop {l : List Nat} (n : Nat) (h : okL l) : okL (l.drop n) := fun c hc => h c (List.mem_of_mem_drop hc)
theorem strOk_tx {l : List Nat} (h : okL l) : PyData.strOk (tx l) = true := by
  show (l.toArray.all fun c => decide (c < 0x110000)) = true
  rw [List.all_toArray]
  exact List.all_eq_true.mpr fun c hc => by have := h c hc; simp; omega
theorem eqD_tx {a b : List Nat} (h : okL a) (h2 : okL b) : eqD (.str (tx a)) (.str (tx b)) = some (decide (a = b)) := by
  rw [eqD_s (strOk_tx h) (strOk_tx h2)]
  congr 1
  by_cases e : a = b <;> simp [e]
theorem big_line {n : Nat} (h : n ≤ 1000000) : n ≤ sizeLine := Nat.le_trans h (by decide)
theorem pAdd_tx {a b : List Nat} (h : a.length + b.length ≤ 1000000) : pAdd (.str (tx a)) (.str (tx b)) = some (.val (.str (tx (a ++ b)))) := by
  rw [pAdd_s (by rw [tx_len, tx_len]; exact big_line h), tx_cat]
/-- a whole number's signs -/
def intL (i : Int) : List Nat := if i < 0 then 45 :: TL.numL i.natAbs else TL.numL i.natAbs
theorem str_int (i : Int) : (toString i : String).toList.map Char.toNat = intL i := by
  unfold intL
  by_cases h : i < 0
  · rw [if_pos h]
    obtain ⟨n, rfl⟩ : ∃ n : Nat, i = Int.negSucc n := by
      cases i with
      | ofNat n => simp at h; omega
      | negSucc n => exact ⟨n, rfl⟩
    have e : (toString (Int.negSucc n) : String) = "-" ++ toString (n + 1) := rfl
    rw [e, String.toList_append, List.map_append]
    have := TL.tl_num (n + 1)
    rw [TL.tl_ofString] at this
    have t : (toString (((n + 1 : Nat) : Int)) : String) = toString (n + 1) := rfl
    rw [t] at this
    rw [this]
    rfl
  · rw [if_neg h]
    obtain ⟨n, rfl⟩ := Int.eq_ofNat_of_zero_le (show 0 ≤ i by omega)
    have := TL.tl_num n
    rw [TL.tl_ofString] at this
    rw [this]
    rfl
theorem ofString_int (i : Int) : Str.ofString (toString i) = tx (intL i) := by
  apply TL.ext_tl
  rw [TL.tl_ofString, str_int]
  rfl
theorem pStr_i {i : Int} (h : i.natAbs < 2 ^ 1900) : pStr (.int i) = some (.val (.str (tx (intL i)))) := by
  show (if i.natAbs.log2 < 1920 then vd (.str (Str.ofString (toString i))) else none) = _
  rw [if_pos (Nat.lt_of_lt_of_le (log_lt h (by decide)) (by decide)), ofString_int]
  rfl
theorem numL_ok (n : Nat) : okL (TL.numL n) := fun c hc => by have := TL.numL_digits n c hc; omega
theorem intL_ok (i : Int) : okL (intL i) := by
  unfold intL
  split
  · exact okL_cons.mpr ⟨by decide, numL_ok _⟩
  · exact numL_ok _
theorem numL_len600 {n : Nat} (h : n < 2 ^ 1900) : (TL.numL n).length ≤ 600 := TL.numL_len (by decide) (Nat.lt_of_lt_of_le h (by decide))
theorem intL_len {i : Int} (h : i.natAbs < 2 ^ 1900) : (intL i).length ≤ 601 := by
  have := numL_len600 h
  unfold intL
  split
  · simp only [List.length_cons]; omega
  · omega
/-- a number's signs -/
def ratL (r : Rat) : List Nat := if r.den = 1 then intL r.num else intL r.num ++ 47 :: TL.numL r.den
def szR (k : Nat) (r : Rat) : Prop := r.num.natAbs < 2 ^ k ∧ r.den < 2 ^ k
theorem ratL_ok (r : Rat) : okL (ratL r) := by
  unfold ratL
  split
  · exact intL_ok _
  · exact okL_app.mpr ⟨intL_ok _, okL_cons.mpr ⟨by decide, numL_ok _⟩⟩
theorem sl_str : Str.ofString "/" = tx [47] := by decide
theorem run_show_number (F : Fe) {r : Rat} (h : szR 1900 r) : runDef F ⟨1, 1, [0], c_show_number⟩ [.val (nr r)] = some (.ret (.val (.str (tx (ratL r)))) [.val (nr r)]) := by
  rw [runDef_eq (by rfl)]
  have e1 := pStr_i h.1
  have e2 := pStr_i (i := (r.den : Int)) (by rw [Int.natAbs_natCast]; exact h.2)
  have l1 := intL_len h.1
  have l2 := intL_len (i := (r.den : Int)) (by rw [Int.natAbs_natCast]; exact h.2)
  have e3 : intL (r.den : Int) = TL.numL r.den := by unfold intL; rw [if_neg (by omega), Int.natAbs_natCast]
  unfold ratL
  by_cases hd : r.den = 1
  · have hd' : (r.den : Int) = 1 := by omega
    simp [c_show_number, nr, hd, hd', e1]
  · have hd' : ¬ (r.den : Int) = 1 := by omega
    have p1 := pAdd_tx (a := intL r.num) (b := [47]) (by simp; omega)
    have p2 := pAdd_tx (a := intL r.num ++ [47]) (b := TL.numL r.den) (by rw [e3] at l2; simp; omega)
    rw [e3] at e2
    simp [c_show_number, nr, hd, hd', e1, e2, sl_str, p1, p2]
end Ev

set_option Elab.async false
set_option linter.all false
set_option maxRecDepth 100000
set_option maxHeartbeats 4000000
set_option exponentiation.threshold 10000
namespace Ev
open PySem PySem.Spec PyProof.Rows L2
def dig (c : Nat) : Bool := decide (48 ≤ c) && decide (c ≤ 57)
def figs (l : List Nat) : Bool := !l.isEmpty && l.all dig && (decide (l = [48]) || decide (l.head? ≠ some 48))
def stripL (l : List Nat) : List Nat := if l.take 1 = [45] then l.tail else l
def valL (l : List Nat) : Int := if l.take 1 = [45] then -((NumText.digitsVal l.tail : Nat) : Int) else ((NumText.digitsVal l : Nat) : Int)
/-- a pair in lowest terms -/
def lowB (a b : Int) : Bool := decide (1 ≤ b) && decide (Int.gcd a b = 1)
def numIn (l : List Nat) : Option (Int × Int) := match TL.par [47] [] l with
  | none => if (figs (stripL l) && decide (l ≠ [45, 48])) = true then some (valL l, 1) else none
  | some (t, b) => if (figs (stripL t) && decide (t ≠ [45, 48]) && figs b && decide (b ≠ [49]) && lowB (valL t) (valL b)) = true then some (valL t, valL b) else none
def prD : Option (Int × Int) → D
  | none => .non
  | some (a, b) => .tup [.int a, .int b]
theorem seqD_s {x : Str} : seqD (.str x) = some (x.cps.toList.map fun c => .str ⟨#[c]⟩) := rfl
@[simp] theorem seqD_tx {l : List Nat} : seqD (.str (tx l)) = some (l.map fun c => .str (tx [c])) := rfl
theorem fig_in {c : Nat} : pIn (.str (tx [c])) (.str "0123456789") = some (dig c) := by
  show (if (tx [c]).cps.size = 1 then some (decide ((tx [c]).cps.getD 0 0 ∈ (Str.ofString "0123456789").cps.toList)) else none) = _
  rw [if_pos (show (tx [c]).cps.size = 1 from rfl)]
  have e : (Str.ofString "0123456789").cps.toList = [48, 49, 50, 51, 52, 53, 54, 55, 56, 57] := by decide
  rw [e]
  show some (decide (c ∈ [48, 49, 50, 51, 52, 53, 54, 55, 56, 57])) = _
  congr 1
  unfold dig
  rw [← Bool.decide_and]
  apply decide_eq_decide.mpr
  simp
  omega
theorem pItem_s {l : List Nat} {i : Int} (h : l.length ≤ 1000000) : pItem (.str (tx l)) (.int i) = ofO (atI l i) fun c => some (.val (.str (tx [c]))) := by
  show (if (tx l).length ≤ sizeLine then (atI (tx l).cps.toList i).bind fun c => vd (.str ⟨#[c]⟩) else none) = _
  rw [if_pos (by rw [tx_len]; exact big_line h)]
  show (atI l i).bind _ = _
  cases atI l i <;> rfl
theorem sl_e : Str.ofString "" = tx [] := by decide
theorem sl_0 : Str.ofString "0" = tx [48] := by decide
theorem sl_1 : Str.ofString "1" = tx [49] := by decide
theorem sl_m : Str.ofString "-" = tx [45] := by decide
theorem sl_m0 : Str.ofString "-0" = tx [45, 48] := by decide
theorem sl_sp : Str.ofString " " = tx [32] := by decide
theorem okL_lit {l : List Nat} (h : l.all (fun c => decide (c < 256)) = true) : okL l := fun c hc => of_decide_eq_true (List.all_eq_true.mp h c hc)
@[simp] theorem okL_n : okL [] := okL_nil
theorem run_are_figures (F : Fe) (hg : F.gv "FIGURES" = some (.str "0123456789")) {l : List Nat} (h : okL l) (hl : l.length ≤ 100000) : runDef F ⟨1, 2, [0], c_are_figures⟩ [.val (.str (tx l))] = some (.ret (.val (.bl (figs l))) [.val (.str (tx l))]) := by
  rw [runDef_eq (by rfl)]
  have e0 := eqD_tx (b := []) h okL_nil
  have e1 := eqD_tx (b := [48]) h (okL_lit rfl)
  have ec := endL_map (tg := [1]) (tup := false) (c := evE F (.k (.bl true))) (e := evE F (.prim .inn (.cons (.v 1) (.cons (.g "FIGURES") .nil)))) (ds := l.map fun c => .str (tx [c])) (bk := [(.val (.str (tx l)), none)]) (g1 := [some (.val (.str (tx l))), none]) (g2 := [some (.val (.str (tx l))), none]) (fun d => match d with
    | .str x => .bl (dig (x.cps.getD 0 0))
    | d => d) (by simp) (fun d hd => by
      obtain ⟨c, _, rfl⟩ := List.mem_map.mp hd
      rw [turnC_eq]
      simp [hg, fig_in]
      rfl) (by rw [List.length_map]; exact hl)
  have ed : (l.map fun c => D.str (tx [c])).map (fun d => match d with
    | .str x => .bl (dig (x.cps.getD 0 0))
    | d => d) = l.map fun c => D.bl (dig c) := by
    rw [List.map_map]
    rfl
  rw [ed] at ec
  cases l with
  | nil => simp [c_are_figures, sl_e, e0, figs]
  | cons c r =>
    have ne : ¬ (c :: r = []) := by simp
    have e2 := eqD_tx (a := [c]) (b := [48]) (okL_cons.mpr ⟨(okL_cons.mp h).1, okL_nil⟩) (okL_lit rfl)
    have pi := pItem_s (l := c :: r) (i := 0) (by omega)
    simp only [atI0, ofO_some] at pi
    have pa := pAll_map dig (c :: r)
    have hf : figs (c :: r) = ((c :: r).all dig && (decide (c :: r = [48]) || !decide ([c] = [48]))) := by
      unfold figs
      simp
    rw [hf]
    generalize hA : (c :: r).all dig = A at pa ⊢
    generalize hB : decide (c :: r = [48]) = B at e1 ⊢
    generalize hC : decide ([c] = [48]) = C at e2 ⊢
    simp only [decide_eq_false ne] at e0
    generalize hl0 : c :: r = l0 at *
    cases A <;> cases B <;> simp [c_are_figures, sl_e, sl_0, e0, e1, ec, pa, pi, e2]
theorem part_some {l t b : List Nat} (h : TL.par [47] [] l = some (t, b)) : Txt.partition (tx l) (tx [47]) = (tx t, tx [47], tx b) := SX.partition_some (by simp) h
theorem part_none {l : List Nat} (h : TL.par [47] [] l = none) : Txt.partition (tx l) (tx [47]) = (tx l, tx [], tx []) := SX.partition_none (by simp) h
theorem pPart_tx {l s : List Nat} (h : l.length ≤ 1000000) (hs : s ≠ []) : pPart (.str (tx l)) (.str (tx s)) = some (.val (.tup [.str (Txt.partition (tx l) (tx s)).1, .str (Txt.partition (tx l) (tx s)).2.1, .str (Txt.partition (tx l) (tx s)).2.2])) := by
  show (if _ then _ else none) = _
  rw [if_pos ⟨by rw [tx_len]; exact fun z => hs (List.length_eq_zero_iff.mp z), by rw [tx_len]; exact big_line h⟩]
  rfl
theorem par_len {s : List Nat} : ∀ {l acc t b : List Nat}, TL.par s acc l = some (t, b) → t.length ≤ acc.length + l.length ∧ b.length ≤ l.length
  | [], acc, t, b, h => by cases h
  | c :: r, acc, t, b, h => by
    by_cases e : TL.pre s (c :: r) = true
    · rw [TL.par_hit e] at h
      cases h
      refine ⟨by omega, ?_⟩
      rw [List.length_drop]
      omega
    · have e : TL.pre s (c :: r) = false := by simpa using e
      rw [TL.par_miss e] at h
      have := par_len h
      simp only [List.length_append, List.length_cons, List.length_nil] at this ⊢
      omega
theorem par_mem {s : List Nat} : ∀ {l acc t b : List Nat}, TL.par s acc l = some (t, b) → (∀ c ∈ t, c ∈ acc ∨ c ∈ l) ∧ ∀ c ∈ b, c ∈ l
  | [], acc, t, b, h => by cases h
  | c :: r, acc, t, b, h => by
    by_cases e : TL.pre s (c :: r) = true
    · rw [TL.par_hit e] at h
      cases h
      exact ⟨fun d hd => .inl hd, fun d hd => List.mem_of_mem_drop hd⟩
    · have e : TL.pre s (c :: r) = false := by simpa using e
      rw [TL.par_miss e] at h
      obtain ⟨h1, h2⟩ := par_mem h
      refine ⟨fun d hd => ?_, fun d hd => List.mem_cons_of_mem _ (h2 d hd)⟩
      rcases h1 d hd with q | q
      · rcases List.mem_append.mp q with q | q
        · exact .inl q
        · rw [List.mem_singleton.mp q]; exact .inr List.mem_cons_self
      · exact .inr (List.mem_cons_of_mem _ q)
theorem cut_to {l : List Nat} {n : Nat} : cutS (tx l) none (some (n : Int)) = tx (l.take n) := by
  apply TL.ext_tl
  show (l.drop (HT.sIx (tx l).length 0 none)).take (HT.sIx (tx l).length (tx l).length (some (n : Int)) - HT.sIx (tx l).length 0 none) = l.take n
  rw [HT.sIx_none, HT.sIx_nat, tx_len, List.drop_zero, Nat.sub_zero]
  by_cases h : n ≤ l.length
  · rw [Nat.min_eq_left h]
  · rw [Nat.min_eq_right (by omega), List.take_of_length_le (Nat.le_refl _), List.take_of_length_le (by omega)]
theorem cut_from {l : List Nat} {n : Nat} : cutS (tx l) (some (n : Int)) none = tx (l.drop n) := by
  apply TL.ext_tl
  show (l.drop (HT.sIx (tx l).length 0 (some (n : Int)))).take (HT.sIx (tx l).length (tx l).length none - HT.sIx (tx l).length 0 (some (n : Int))) = l.drop n
  rw [HT.sIx_none, HT.sIx_nat, tx_len]
  rw [List.take_of_length_le (by rw [List.length_drop]; omega)]
  by_cases h : n ≤ l.length
  · rw [Nat.min_eq_left h]
  · rw [Nat.min_eq_right (by omega), List.drop_eq_nil_of_le (Nat.le_refl _), List.drop_eq_nil_of_le (by omega)]
theorem figs_digits {l : List Nat} (h : figs l = true) : NumText.AllDigits l ∧ l ≠ [] := by
  unfold figs at h
  simp only [Bool.and_eq_true] at h
  obtain ⟨⟨h1, h2⟩, _⟩ := h
  refine ⟨fun c hc => ?_, by simpa using h1⟩
  have := List.all_eq_true.mp h2 c hc
  unfold dig at this
  simpa using this
theorem pInt_tx {l : List Nat} (h : figs (stripL l) = true) (hl : l.length ≤ 640) : pInt (.str (tx l)) = some (.val (.int (valL l))) := by
  obtain ⟨h1, h2⟩ := figs_digits h
  show (if (tx l).length ≤ 640 then (PySem.intText? (tx l)).bind vi else none) = _
  rw [if_pos (by rw [tx_len]; exact hl)]
  unfold stripL at h1 h2
  unfold valL
  by_cases e : l.take 1 = [45]
  · rw [if_pos e] at h1 h2 ⊢
    have : (tx l).cps.toList = 45 :: l.tail := by
      show l = _
      cases l with
      | nil => cases e
      | cons c r => simp at e; rw [e]; rfl
    rw [intText_neg this h1 h2 (by rw [tx_len]; omega)]
    rfl
  · rw [if_neg e] at h1 h2 ⊢
    rw [intText_digits (x := tx l) h1 h2 (by rw [tx_len]; omega)]
    rfl
theorem figs_strip {l : List Nat} (h : figs l = true) : stripL l = l := by
  unfold stripL
  rw [if_neg]
  intro e
  obtain ⟨h1, h2⟩ := figs_digits h
  cases l with
  | nil => exact h2 rfl
  | cons c r =>
    have := h1 c List.mem_cons_self
    simp at e
    omega
end Ev

set_option Elab.async false
set_option linter.all false
set_option maxRecDepth 100000
set_option maxHeartbeats 4000000
set_option exponentiation.threshold 10000
namespace Ev
open PySem PySem.Spec PyProof.Rows L2
/-- a def's promise -/
def Fn (F : Fe) (f : Str) (P : (List W → Option FR) → Prop) : Prop := ∃ s, F.fn f = some s ∧ P s
def PWhole (s : List W → Option FR) : Prop := ∀ d, plain d = true → s [.val d] = some (.ret (.val (.bl (wholeD d))) [.val d])
def PCommon (s : List W → Option FR) : Prop := ∀ a b : Int, s [.val (.int a), .val (.int b)] = some (.ret (.val (.int (Int.gcd a b))) [.out, .out])
def numD : D → Bool
  | .tup [.int a, .int b] => lowB a b
  | _ => false
def PIsNumber (s : List W → Option FR) : Prop := ∀ d, plain d = true → dlen d ≤ 100000 → s [.val d] = some (.ret (.val (.bl (numD d))) [.val d])
where dlen : D → Nat
  | .tup xs => xs.length
  | _ => 0
theorem all_whole {F : Fe} {s : List W → Option FR} (h1 : F.fn "is_whole" = some s) (p1 : PWhole s) {xs : List D} (hp : plains xs = true) (hl : xs.length ≤ 100000) {g : Sg} (hg : g = [some (.val (.tup xs)), none]) :
    endL [1] false (evE F (.k (.bl true))) (evE F (.call "is_whole" (.cons (.v 1) .nil))) xs [(.val (.tup xs), none)] g = some (.ok (.lst (xs.map fun d => .bl (wholeD d))) g) := by
  subst hg
  rw [endL_map (h := fun d => .bl (wholeD d)) (g2 := [some (.val (.tup xs)), none]) (by simp) (fun d hd => by
    rw [turnC_eq]
    simp [h1, p1 d (plains_mem hp hd)]) hl]
  simp
theorem run_is_number (F : Fe) (h1 : Fn F "is_whole" PWhole) (h2 : Fn F "common" PCommon) : PIsNumber (runDef F ⟨1, 2, [0], c_is_number⟩) := by
  obtain ⟨s1, h1, p1⟩ := h1
  obtain ⟨s2, h2, p2⟩ := h2
  intro d hd hlen
  rw [runDef_eq (by rfl)]
  cases d with
  | tup xs =>
    have hp : plains xs = true := by unfold plain at hd; exact hd
    have hl : xs.length ≤ 100000 := hlen
    have ea := all_whole h1 p1 hp hl rfl
    have pa := pAll_map wholeD xs
    by_cases h2l : xs.length = 2
    · match xs, h2l with
      | [a, b], _ =>
        have e2 : decide ((([a, b] : List D).length : Int) = 2) = true := by simp
        by_cases hw : ([a, b] : List D).all wholeD = true
        · rw [hw] at pa
          cases a <;> first | (simp [wholeD] at hw; done) | skip
          cases b <;> first | (simp [wholeD] at hw; done) | skip
          rename_i i j hq
          simp only [List.map_cons, List.map_nil, wholeD] at ea pa
          by_cases hj : 1 ≤ j
          · have hc : ((Int.gcd i j : Int) = 1) ↔ Int.gcd i j = 1 := by omega
            simp [c_is_number, h1, h2, p2 i j, ea, pa, numD, lowB, hj, hc]
          · simp [c_is_number, h1, h2, p2, ea, pa, numD, lowB, hj]
        · have hw : ([a, b] : List D).all wholeD = false := by simpa using hw
          rw [hw] at pa
          have hn : numD (.tup [a, b]) = false := by
            cases a <;> cases b <;> first | rfl | (simp [wholeD] at hw)
          rw [hn]
          simp only [List.map_cons, List.map_nil] at ea pa
          simp [c_is_number, ea, pa]
    · have e2 : decide ((xs.length : Int) = 2) = false := decide_eq_false (by omega)
      have hn : numD (.tup xs) = false := by
        match xs, h2l with
        | [], _ => rfl
        | [_], _ => cases ‹D› <;> rfl
        | [_, _], h => exact absurd rfl h
        | a :: b :: c :: r, _ => cases a <;> first | rfl | (cases b <;> rfl)
      rw [hn]
      simp [c_is_number, e2]
  | _ => first | (unfold plain at hd; cases hd; done) | simp [c_is_number, numD]
def PFigs (s : List W → Option FR) : Prop := ∀ l, okL l → l.length ≤ 100000 → s [.val (.str (tx l))] = some (.ret (.val (.bl (figs l))) [.val (.str (tx l))])
theorem stripL_ok {l : List Nat} (h : okL l) : okL (stripL l) := by
  unfold stripL
  split
  · exact fun c hc => h c (List.mem_of_mem_tail hc)
  · exact h
theorem stripL_len {l : List Nat} : (stripL l).length ≤ l.length := by
  unfold stripL
  split
  · rw [List.length_tail]; omega
  · exact Nat.le_refl _
theorem slTo1 {l : List Nat} (hl : l.length ≤ 640) : pSlice none (some 1) (.str (tx l)) = some (.val (.str (tx (l.take 1)))) := by
  rw [pSlice_s (by rw [tx_len]; exact big_line (by omega))]
  exact congrArg (fun x => some (W.val (.str x))) (cut_to (n := 1))
theorem slFrom1 {l : List Nat} (hl : l.length ≤ 640) : pSlice (some 1) none (.str (tx l)) = some (.val (.str (tx l.tail))) := by
  rw [pSlice_s (by rw [tx_len]; exact big_line (by omega)), ← List.drop_one]
  exact congrArg (fun x => some (W.val (.str x))) (cut_from (n := 1))
def PNumIn (s : List W → Option FR) : Prop := ∀ l, okL l → l.length ≤ 640 → s [.val (.str (tx l))] = some (.ret (.val (prD (numIn l))) [.val (.str (tx l))])
theorem run_number_in (F : Fe) (h1 : Fn F "are_figures" PFigs) (h2 : Fn F "is_number" PIsNumber) : PNumIn (runDef F ⟨1, 5, [0], c_number_in⟩) := by
  obtain ⟨s1, h1, p1⟩ := h1
  obtain ⟨s2, h2, p2⟩ := h2
  intro l hk hl
  rw [runDef_eq (by rfl)]
  have pp := pPart_tx (l := l) (s := [47]) (by omega) (by simp)
  cases hpar : TL.par [47] [] l with
  | none =>
    rw [part_none hpar] at pp
    have q1 := slTo1 hl
    have q2 := slFrom1 hl
    have e1 := eqD_tx (b := [45]) (okL_take 1 hk) (okL_lit rfl)
    have e2 := eqD_tx (b := [45, 48]) hk (okL_lit rfl)
    have e3 := eqD_tx (a := []) (b := []) okL_nil okL_nil
    have f1 := p1 _ (stripL_ok hk) (Nat.le_trans stripL_len (by omega))
    unfold numIn
    rw [hpar]
    dsimp only
    have pi := fun h => pInt_tx (l := l) h hl
    generalize hA : figs (stripL l) = A at f1 pi ⊢
    generalize hB : decide (l = [45, 48]) = B at e2
    have hB' : decide (l ≠ [45, 48]) = !B := by rw [← hB]; simp
    unfold stripL at f1
    by_cases hs : l.take 1 = [45]
    · rw [if_pos hs] at f1
      rw [hs] at q1
      simp only [decide_eq_true hs] at e1
      rw [hs] at e1
      rw [hB']
      cases A <;> cases B <;> simp [c_number_in, sl_str, sl_e, sl_m, sl_m0, pp, q1, q2, e1, e2, e3, h1, f1, pi, prD]
    · rw [if_neg hs] at f1
      simp only [decide_eq_false hs] at e1
      rw [hB']
      cases A <;> cases B <;> simp [c_number_in, sl_str, sl_e, sl_m, sl_m0, pp, q1, q2, e1, e2, e3, h1, f1, pi, prD]
  | some q =>
    obtain ⟨t, b⟩ := q
    rw [part_some hpar] at pp
    obtain ⟨lt, lb⟩ := par_len hpar
    obtain ⟨mt, mb⟩ := par_mem hpar
    simp only [List.length_nil, Nat.zero_add] at lt
    have ht : okL t := fun c hc => (mt c hc).elim (fun h => nomatch h) (hk c)
    have hb : okL b := fun c hc => hk c (mb c hc)
    have hlt : t.length ≤ 640 := by omega
    have hlb : b.length ≤ 640 := by omega
    have q1 := slTo1 hlt
    have q2 := slFrom1 hlt
    have e1 := eqD_tx (b := [45]) (okL_take 1 ht) (okL_lit rfl)
    have e2 := eqD_tx (b := [45, 48]) ht (okL_lit rfl)
    have e3 := eqD_tx (a := [47]) (b := []) (okL_lit rfl) okL_nil
    have e4 := eqD_tx (b := [49]) hb (okL_lit rfl)
    have f1 := p1 _ (stripL_ok ht) (Nat.le_trans stripL_len (by omega))
    have f2 := p1 _ hb (by omega)
    unfold numIn
    rw [hpar]
    dsimp only
    have pi := fun h => pInt_tx (l := t) h hlt
    have pj := fun h : figs b = true => pInt_tx (l := b) (by rw [figs_strip h]; exact h) hlb
    have hn := p2 (.tup [.int (valL t), .int (valL b)]) rfl (by show 2 ≤ 100000; decide)
    generalize hA : figs (stripL t) = A at f1 pi ⊢
    generalize hB : decide (t = [45, 48]) = B at e2
    generalize hC : figs b = C at f2 pj
    generalize hD : decide (b = [49]) = Dd at e4
    have hB' : decide (t ≠ [45, 48]) = !B := by rw [← hB]; simp
    have hD' : decide (b ≠ [49]) = !Dd := by rw [← hD]; simp
    have hn' : numD (.tup [.int (valL t), .int (valL b)]) = lowB (valL t) (valL b) := rfl
    rw [hn'] at hn
    rw [hB', hD']
    generalize hE : lowB (valL t) (valL b) = E at hn
    unfold stripL at f1
    by_cases hs : t.take 1 = [45]
    · rw [if_pos hs] at f1
      rw [hs] at q1
      simp only [decide_eq_true hs] at e1
      rw [hs] at e1
      cases A <;> cases B <;> cases C <;> cases Dd <;> cases E <;> simp [c_number_in, sl_str, sl_e, sl_m, sl_m0, sl_1, pp, q1, q2, e1, e2, e3, e4, h1, h2, f1, f2, pi, pj, hn, prD]
    · rw [if_neg hs] at f1
      simp only [decide_eq_false hs] at e1
      cases A <;> cases B <;> cases C <;> cases Dd <;> cases E <;> simp [c_number_in, sl_str, sl_e, sl_m, sl_m0, sl_1, pp, q1, q2, e1, e2, e3, e4, h1, h2, f1, f2, pi, pj, hn, prD]
end Ev

set_option Elab.async false
set_option linter.all false
set_option maxRecDepth 100000
set_option maxHeartbeats 4000000
set_option exponentiation.threshold 10000
namespace Ev
open PySem PySem.Spec PyProof.Rows L2
theorem numL_zero : TL.numL 0 = [48] := TL.numL_lt (by decide)
theorem numL_one : TL.numL 1 = [49] := TL.numL_lt (by decide)
theorem numL_head {n : Nat} (h : 0 < n) : (TL.numL n).head? ≠ some 48 := by
  induction n using Nat.strongRecOn with
  | _ n ih =>
    by_cases h10 : n < 10
    · rw [TL.numL_lt h10]
      simp
      omega
    · have := ih (n / 10) (by omega) (by omega)
      rw [TL.numL_step (by omega)]
      cases e : TL.numL (n / 10) with
      | nil => exact absurd e (TL.numL_ne _)
      | cons c r =>
        rw [e] at this
        exact this
theorem numL_figs (n : Nat) : figs (TL.numL n) = true := by
  unfold figs
  simp only [Bool.and_eq_true]
  refine ⟨⟨?_, ?_⟩, ?_⟩
  · have := TL.numL_ne n
    simpa using this
  · refine List.all_eq_true.mpr fun c hc => ?_
    have := TL.numL_digits n c hc
    unfold dig
    simpa using this
  · by_cases h : n = 0
    · subst h
      rw [numL_zero]
      decide
    · have := numL_head (n := n) (by omega)
      simp [this]
theorem intL_strip (i : Int) : stripL (intL i) = TL.numL i.natAbs := by
  unfold stripL intL
  by_cases h : i < 0
  · rw [if_pos h]
    rfl
  · rw [if_neg h, if_neg]
    intro e
    have := TL.numL_free (n := i.natAbs) (s := 45) (by omega)
    cases q : TL.numL i.natAbs with
    | nil => exact TL.numL_ne _ q
    | cons c r =>
      rw [q] at e this
      simp at e
      subst e
      simp at this
theorem intL_val (i : Int) : valL (intL i) = i := by
  unfold valL intL
  by_cases h : i < 0
  · rw [if_pos h, if_pos (show List.take 1 (45 :: TL.numL i.natAbs) = [45] from rfl)]
    show -((NumText.digitsVal (TL.numL i.natAbs) : Nat) : Int) = i
    rw [TL.numL_val]
    omega
  · rw [if_neg h, if_neg]
    · rw [TL.numL_val]
      omega
    · intro e
      have := TL.numL_free (n := i.natAbs) (s := 45) (by omega)
      cases q : TL.numL i.natAbs with
      | nil => exact TL.numL_ne _ q
      | cons c r =>
        rw [q] at e this
        simp at e
        subst e
        simp at this
theorem intL_ne (i : Int) : intL i ≠ [45, 48] := by
  unfold intL
  by_cases h : i < 0
  · rw [if_pos h]
    intro e
    injection e with _ e
    rw [← numL_zero] at e
    have := TL.numL_inj e
    omega
  · rw [if_neg h]
    intro e
    have := TL.numL_free (n := i.natAbs) (s := 45) (by omega)
    rw [e] at this
    simp at this
theorem intL_free {i : Int} {s : Nat} (h : s < 45 ∨ 57 < s ∨ s = 46 ∨ s = 47) : s ∉ intL i := by
  unfold intL
  split
  · intro hm
    rcases List.mem_cons.mp hm with e | hm
    · omega
    · exact TL.numL_free (by omega) hm
  · exact TL.numL_free (by omega)
theorem intL_nenil (i : Int) : intL i ≠ [] := by
  unfold intL
  split
  · simp
  · exact TL.numL_ne _
theorem ratL_free {r : Rat} {s : Nat} (h : s < 45 ∨ 57 < s ∨ s = 46) : s ∉ ratL r := by
  unfold ratL
  split
  · exact intL_free (by omega)
  · intro hm
    rcases List.mem_append.mp hm with hm | hm
    · exact intL_free (by omega) hm
    · rcases List.mem_cons.mp hm with e | hm
      · omega
      · exact TL.numL_free (by omega) hm
theorem ratL_ne (r : Rat) : ratL r ≠ [] := by
  unfold ratL
  split
  · exact intL_nenil _
  · simp
theorem numIn_rat (r : Rat) : numIn (ratL r) = some (r.num, (r.den : Int)) := by
  unfold numIn ratL
  by_cases h : r.den = 1
  · rw [if_pos h, TL.par_none1 (intL_free (by omega)), h]
    dsimp only
    rw [intL_strip, numL_figs, intL_val]
    simp [intL_ne]
  · rw [if_neg h]
    have := TL.par_part1 (s := 47) (S := []) (p := intL r.num) (rest := TL.numL r.den) (acc := []) (intL_free (by omega))
    simp only [List.cons_append, List.nil_append] at this
    rw [this]
    dsimp only
    have h1 : TL.numL r.den ≠ [49] := by
      rw [← numL_one]
      exact fun e => h (TL.numL_inj e)
    have h2 : valL (TL.numL r.den) = (r.den : Int) := by
      have := intL_val (r.den : Int)
      unfold intL at this
      rw [if_neg (by omega), Int.natAbs_natCast] at this
      exact this
    rw [intL_strip, numL_figs, intL_val, numL_figs, h2]
    have h3 : lowB r.num r.den = true := by
      unfold lowB
      have g : Int.gcd r.num r.den = 1 := r.reduced
      have p := r.den_pos
      rw [g]
      simp
      omega
    simp [intL_ne, h1, h3]
theorem ratL_len {r : Rat} {k : Nat} (hk : 0 < k) (h : r.num.natAbs < 10 ^ k) (h2 : r.den < 10 ^ k) : (ratL r).length ≤ 2 * k + 2 := by
  have l1 := TL.numL_len hk h
  have l2 := TL.numL_len hk h2
  have li : (intL r.num).length ≤ k + 1 := by
    unfold intL
    split
    · simp only [List.length_cons]; omega
    · omega
  unfold ratL
  split
  · omega
  · simp only [List.length_append, List.length_cons]; omega
theorem spl_acc (s : Nat) : ∀ (l acc : List Nat), ∃ p ps, TL.spl [s] 0 acc l = (acc ++ p) :: ps ∧ TL.spl [s] 0 [] l = p :: ps
  | [], acc => ⟨[], [], by rw [TL.spl_nil, List.append_nil], TL.spl_nil _ _ _⟩
  | c :: r, acc => by
    by_cases h : TL.pre [s] (c :: r) = true
    · rw [TL.spl_hit h, TL.spl_hit h]
      exact ⟨[], _, by rw [List.append_nil], rfl⟩
    · have h : TL.pre [s] (c :: r) = false := by simpa using h
      rw [TL.spl_miss h, TL.spl_miss h]
      obtain ⟨p, ps, h1, h2⟩ := spl_acc s r (acc ++ [c])
      obtain ⟨p', ps', h3, h4⟩ := spl_acc s r ([] ++ [c])
      rw [h4] at h2
      cases h2
      exact ⟨[c] ++ p, ps, by rw [h1, List.append_assoc], h3⟩
theorem spl_app (s : Nat) : ∀ (a b : List Nat), TL.spl [s] 0 [] (a ++ s :: b) = TL.spl [s] 0 [] a ++ TL.spl [s] 0 [] b
  | [], b => by
    have h : TL.pre [s] (s :: b) = true := by simp [TL.pre]
    show TL.spl [s] 0 [] (s :: b) = _
    rw [TL.spl_hit h, TL.spl_nil]
    rfl
  | c :: a, b => by
    have ih := spl_app s a b
    by_cases e : c = s
    · subst e
      have h : ∀ r, TL.pre [c] (c :: r) = true := fun r => by simp [TL.pre]
      show TL.spl [c] 0 [] (c :: (a ++ c :: b)) = _
      rw [TL.spl_hit (h _), TL.spl_hit (h _)]
      show [] :: TL.spl [c] 0 [] (a ++ c :: b) = _
      rw [ih]
      rfl
    · have h : ∀ r, TL.pre [s] (c :: r) = false := fun r => TL.pre_of_head [] r e
      show TL.spl [s] 0 [] (c :: (a ++ s :: b)) = _
      rw [TL.spl_miss (h _), TL.spl_miss (h _)]
      obtain ⟨p, ps, h1, h2⟩ := spl_acc s a ([] ++ [c])
      obtain ⟨p', ps', h3, h4⟩ := spl_acc s (a ++ s :: b) ([] ++ [c])
      rw [h1, h3]
      rw [ih, h2] at h4
      injection h4 with e1 e2
      rw [← e1, ← e2]
      rfl
/-- what is glued is cut as its parts are -/
theorem spl_glue (s : Nat) : ∀ {ps : List (List Nat)}, ps ≠ [] → TL.spl [s] 0 [] (TL.joinL [s] ps) = ps.flatMap (TL.spl [s] 0 [])
  | [], h => absurd rfl h
  | [p], _ => by
    show TL.spl [s] 0 [] p = _
    rw [List.flatMap_cons, List.flatMap_nil, List.append_nil]
  | p :: q :: r, _ => by
    have ih := spl_glue s (ps := q :: r) (by simp)
    show TL.spl [s] 0 [] (p ++ ([s] ++ TL.joinL [s] (q :: r))) = _
    rw [List.singleton_append, spl_app, ih]
    rfl
theorem spl_free {s : Nat} {p : List Nat} (h : s ∉ p) : TL.spl [s] 0 [] p = [p] := by
  rw [TL.spl_last1 h]
  rfl
theorem flat_free {s : Nat} : ∀ {ps : List (List Nat)}, (∀ p ∈ ps, s ∉ p) → ps.flatMap (TL.spl [s] 0 []) = ps
  | [], _ => rfl
  | p :: r, h => by
    rw [List.flatMap_cons, spl_free (h p List.mem_cons_self), flat_free fun q hq => h q (List.mem_cons_of_mem _ hq)]
    rfl
theorem joinL_len {s : List Nat} {k : Nat} : ∀ {ps : List (List Nat)}, (∀ p ∈ ps, p.length ≤ k) → (TL.joinL s ps).length ≤ ps.length * (k + s.length)
  | [], _ => by simp [TL.joinL]
  | [p], h => by
    have := h p List.mem_cons_self
    show p.length ≤ 1 * (k + s.length)
    omega
  | p :: q :: r, h => by
    have ih := joinL_len (s := s) (ps := q :: r) fun x hx => h x (List.mem_cons_of_mem _ hx)
    have := h p List.mem_cons_self
    show (p ++ (s ++ TL.joinL s (q :: r))).length ≤ _
    rw [List.length_append, List.length_append]
    simp only [List.length_cons] at ih ⊢
    rw [Nat.succ_mul]
    omega
theorem joinL_ok {s : List Nat} (hs : okL s) : ∀ {ps : List (List Nat)}, (∀ p ∈ ps, okL p) → okL (TL.joinL s ps)
  | [], _ => okL_nil
  | [p], h => h p List.mem_cons_self
  | p :: q :: r, h => okL_app.mpr ⟨h p List.mem_cons_self, okL_app.mpr ⟨hs, joinL_ok hs fun x hx => h x (List.mem_cons_of_mem _ hx)⟩⟩
theorem spl_mem {s : List Nat} : ∀ {k : Nat} {l acc : List Nat}, ∀ p ∈ TL.spl s k acc l, p.length ≤ acc.length + l.length ∧ ∀ c ∈ p, c ∈ acc ∨ c ∈ l
  | k, [], acc, p, hp => by
    rw [TL.spl_nil] at hp
    rw [List.mem_singleton.mp hp]
    exact ⟨by simp, fun c hc => .inl hc⟩
  | 0, c :: r, acc, p, hp => by
    by_cases h : TL.pre s (c :: r) = true
    · rw [TL.spl_hit h] at hp
      rcases List.mem_cons.mp hp with e | hp
      · rw [e]
        exact ⟨by omega, fun c hc => .inl hc⟩
      · obtain ⟨h1, h2⟩ := spl_mem p hp
        simp only [List.length_nil, List.length_cons] at h1 ⊢
        refine ⟨by omega, fun d hd => ?_⟩
        rcases h2 d hd with q | q
        · cases q
        · exact .inr (List.mem_cons_of_mem _ q)
    · have h : TL.pre s (c :: r) = false := by simpa using h
      rw [TL.spl_miss h] at hp
      obtain ⟨h1, h2⟩ := spl_mem p hp
      simp only [List.length_append, List.length_cons, List.length_nil] at h1 ⊢
      refine ⟨by omega, fun d hd => ?_⟩
      rcases h2 d hd with q | q
      · rcases List.mem_append.mp q with q | q
        · exact .inl q
        · rw [List.mem_singleton.mp q]; exact .inr List.mem_cons_self
      · exact .inr (List.mem_cons_of_mem _ q)
  | k + 1, c :: r, acc, p, hp => by
    have hp : p ∈ TL.spl s k acc r := hp
    obtain ⟨h1, h2⟩ := spl_mem p hp
    simp only [List.length_cons] at h1 ⊢
    refine ⟨by omega, fun d hd => ?_⟩
    rcases h2 d hd with q | q
    · exact .inl q
    · exact .inr (List.mem_cons_of_mem _ q)
/-- the row of parts, or the first part that is none -/
def rdRow (k : Nat) (acc : List (Int × Int)) : List (List Nat) → Nat ⊕ List (Int × Int)
  | [] => .inr acc
  | p :: ps => match numIn p with
    | some q => if 25 ≤ k then .inl k else rdRow (k + 1) (acc ++ [q]) ps
    | none => .inl k
theorem rdRow_ok : ∀ (ps : List (List Nat)) (qs : List (Int × Int)) (k : Nat) (acc : List (Int × Int)) (r : List (List Nat)), ps.map numIn = qs.map some → k + ps.length ≤ 25 → rdRow k acc (ps ++ r) = rdRow (k + ps.length) (acc ++ qs) r
  | [], qs, k, acc, r, h, _ => by
    have : qs = [] := by
      cases qs with
      | nil => rfl
      | cons q qs => cases h
    subst this
    simp
  | p :: ps, qs, k, acc, r, h, hk => by
    cases qs with
    | nil => cases h
    | cons q qs =>
      rw [List.map_cons, List.map_cons] at h
      injection h with h1 h2
      simp only [List.length_cons] at hk
      show rdRow k acc (p :: (ps ++ r)) = _
      conv => lhs; unfold rdRow
      rw [h1]
      dsimp only
      rw [if_neg (by omega), rdRow_ok ps qs (k + 1) (acc ++ [q]) r h2 (by omega)]
      simp only [List.length_cons, List.append_assoc, List.singleton_append]
      rw [show k + 1 + ps.length = k + (ps.length + 1) by omega]
theorem rdRow_bad {k : Nat} {acc : List (Int × Int)} {p : List Nat} {r : List (List Nat)} (h : numIn p = none) : rdRow k acc (p :: r) = .inl k := by
  unfold rdRow
  rw [h]
end Ev

set_option Elab.async false
set_option linter.all false
set_option maxRecDepth 100000
set_option maxHeartbeats 4000000
set_option exponentiation.threshold 10000
namespace Ev
open PySem PySem.Spec PyProof.Rows L2
section
variable {pin : List Nat} {g : Sg}
@[simp] theorem storeG_free {i : Nat} {w : W} {x : Option W} (h : g[i]? = some x) (ho : x ≠ some .out) (hp : i ∉ pin) : storeG pin i w g = some (.nx (g.set i (some w))) := by
  cases x with
  | none => exact storeG_noneS h hp
  | some y => exact storeG_someS h (fun z => ho (by rw [z])) hp
@[simp] theorem setAll_free {i : Nat} {is : List Nat} {d : D} {ds : List D} {x : Option W} (h : g[i]? = some x) (ho : x ≠ some .out) : setAll (i :: is) (d :: ds) g = setAll is ds (g.set i (some (.val d))) := by
  cases x with
  | none => exact setAll_none h
  | some y => exact setAll_some h (fun z => ho (by rw [z]))
@[simp] theorem gb_ot {w : W} {r : List (W × Option Nat)} {os : List W} : giveBack (outsTo ((w, none) :: r) os) g = giveBack (outsTo r os.tail) g := by
  cases os <;> rfl
end
@[simp] theorem items_nil : items [] = some [] := rfl
def prP (q : Int × Int) : D := .tup [.int q.1, .int q.2]
theorem prD_some (q : Int × Int) : prD (some q) = prP q := rfl
def PCheck (s : List W → Option FR) : Prop := (∀ x : Str, s [.val (.str x)] = some (.ret (.val .non) [.val (.str x)])) ∧ ∀ d, plain d = true → (∀ x, d ≠ .str x) → s [.val d] = some (.exc ⟨"NoText", some ("part", .non)⟩ [.val d])
theorem run_check_text (F : Fe) : PCheck (runDef F ⟨1, 1, [0], c_check_text⟩) := by
  refine ⟨fun x => ?_, fun d hd hx => ?_⟩
  · rw [runDef_eq (by rfl)]
    simp [c_check_text]
  · rw [runDef_eq (by rfl)]
    cases d <;> first | (unfold plain at hd; cases hd; done) | exact absurd rfl (hx _) | simp [c_check_text]
def rrOut (t : D) : Nat ⊕ List (Int × Int) → Option FR
  | .inr qs => some (.ret (.val (.tup (qs.map prP))) [.val t])
  | .inl k => some (.exc ⟨"NoText", some ("part", .int (k : Nat))⟩ [.val t])
def PRead (s : List W → Option FR) : Prop := (∀ l, okL l → l.length ≤ 100000 → (∀ p ∈ TL.spl [32] 0 [] l, p.length ≤ 640) → s [.val (.str (tx l))] = rrOut (.str (tx l)) (rdRow 0 [] (TL.spl [32] 0 [] l)))
  ∧ ∀ d, plain d = true → (∀ x, d ≠ .str x) → s [.val d] = some (.exc ⟨"NoText", some ("part", .non)⟩ [.val d])
def rrBody (m : Str) : CB := (.cons (.set 4 (.call "number_in" (.cons (.v 3) .nil))) (.cons (.iff (.or (.prim .isN (.cons (.v 4) .nil)) (.prim .ge (.cons (.v 2) (.cons (.g m) .nil)))) (.cons (.raise "NoText" (some "part") (.v 2)) .nil) .nil) (.cons (.set 1 (.prim .add (.cons (.v 1) (.cons (.tup (.cons (.v 4) .nil)) .nil)))) .nil)))
def rrCode (m : Str) : CB := (.cons (.ex (.call "check_text" (.cons (.v 0) .nil))) (.cons (.set 1 (.tup .nil)) (.cons (.for (.enum (.prim .split (.cons (.v 0) (.cons (.k (.str " ")) .nil)))) [2, 3] true (rrBody m)) (.cons (.ret (.v 1)) .nil))))
theorem rrBody_ap {F : Fe} {pin : List Nat} {m : Str} {g : Sg} : evB F pin (rrBody m) g = evB F pin (.cons (.set 4 (.call "number_in" (.cons (.v 3) .nil))) (.cons (.iff (.or (.prim .isN (.cons (.v 4) .nil)) (.prim .ge (.cons (.v 2) (.cons (.g m) .nil)))) (.cons (.raise "NoText" (some "part") (.v 2)) .nil) .nil) (.cons (.set 1 (.prim .add (.cons (.v 1) (.cons (.tup (.cons (.v 4) .nil)) .nil)))) .nil))) g := rfl
theorem rr_loop (F : Fe) (m : Str) (h1 : Fn F "number_in" PNumIn) (hm : F.gv m = some (.int 25)) (t : W) (ht : t ≠ .out) : ∀ (ps : List (List Nat)) (k : Nat) (acc : List (Int × Int)) (x2 x3 x4 : Option W), x2 ≠ some .out → x3 ≠ some .out → x4 ≠ some .out → acc.length = k → k ≤ 25 → (∀ p ∈ ps, okL p ∧ p.length ≤ 640) →
    (match rdRow k acc ps with
    | .inr qs => ∃ y2 y3 y4, forL (turnF [0] [2, 3] true (evB F [0] (rrBody m))) (enumD k (ps.map fun p => .str (tx p))) [some t, some (.val (.tup (acc.map prP))), x2, x3, x4] = some (.nx [some t, some (.val (.tup (qs.map prP))), y2, y3, y4])
    | .inl j => ∃ g, forL (turnF [0] [2, 3] true (evB F [0] (rrBody m))) (enumD k (ps.map fun p => .str (tx p))) [some t, some (.val (.tup (acc.map prP))), x2, x3, x4] = some (.exc ⟨"NoText", some ("part", .int (j : Nat))⟩ (some t :: g)))
  | [], k, acc, x2, x3, x4, _, _, _, _, _, _ => ⟨x2, x3, x4, rfl⟩
  | p :: ps, k, acc, x2, x3, x4, n2, n3, n4, hk, hk2, hp => by
    obtain ⟨s1, e1, p1⟩ := h1
    have q := p1 p (hp p List.mem_cons_self).1 (hp p List.mem_cons_self).2
    have e : enumD k ((p :: ps).map fun p => D.str (tx p)) = .tup [.int k, .str (tx p)] :: enumD (k + 1) (ps.map fun p => .str (tx p)) := rfl
    rw [e]
    unfold rdRow
    cases hn : numIn p with
    | none =>
      rw [hn] at q
      dsimp only
      refine ⟨[some (.val (.tup (acc.map prP))), some (.val (.int k)), some (.val (.str (tx p))), some (.val .non)], ?_⟩
      rw [forL_cons]
      simp [n2, n3, n4, rrBody_ap, e1, q, prD]
    | some v =>
      rw [hn, prD_some] at q
      dsimp only
      by_cases h25 : 25 ≤ k
      · rw [if_pos h25]
        refine ⟨[some (.val (.tup (acc.map prP))), some (.val (.int k)), some (.val (.str (tx p))), some (.val (prP v))], ?_⟩
        rw [forL_cons]
        have hh : (25 : Int) ≤ k := by omega
        simp [n2, n3, n4, rrBody_ap, e1, q, hm, hh, prP]
      · rw [if_neg h25]
        have hh : ¬ (25 : Int) ≤ k := by omega
        have ih := rr_loop F m ⟨s1, e1, p1⟩ hm t ht ps (k + 1) (acc ++ [v]) (some (.val (.int k))) (some (.val (.str (tx p)))) (some (.val (prP v))) (by simp) (by simp) (by simp) (by simp; omega) (by omega) fun x hx => hp x (List.mem_cons_of_mem _ hx)
        have ha := pAdd_t (xs := acc.map prP) (ys := [prP v]) (by simp; exact big_line (by omega))
        have step : turnF [0] [2, 3] true (evB F [0] (rrBody m)) (.tup [.int k, .str (tx p)]) [some t, some (.val (.tup (acc.map prP))), x2, x3, x4] = some (.nx [some t, some (.val (.tup ((acc ++ [v]).map prP))), some (.val (.int k)), some (.val (.str (tx p))), some (.val (prP v))]) := by
          simp [n2, n3, n4, rrBody_ap, e1, q, hm, hh, ha, show isNon (prP v) = false from rfl]
        rw [forL_cons, step, seqS_nx]
        exact ih
theorem run_read_row (F : Fe) (m : Str) (h0 : Fn F "check_text" PCheck) (h1 : Fn F "number_in" PNumIn) (hm : F.gv m = some (.int 25)) : PRead (runDef F ⟨1, 5, [0], rrCode m⟩) := by
  obtain ⟨s0, e0, p0⟩ := h0
  refine ⟨fun l hk hl hp => ?_, fun d hd hx => ?_⟩
  · rw [runDef_eq (by rfl)]
    have sp : pSplit (.str (tx l)) (.str (tx [32])) = some (.lst ((TL.spl [32] 0 [] l).map fun p => .str (tx p))) := by
      show (if _ then _ else none) = _
      rw [if_pos ⟨by rw [tx_len]; decide, by rw [tx_len]; exact big_line (by omega)⟩]
      have := SX.split_S (a := l) (b := [32]) (by simp) rfl
      rw [show Txt.split (tx l) (tx [32]) = _ from this, List.map_map]
      rfl
    have lp := rr_loop F m h1 hm (.val (.str (tx l))) (by simp) (TL.spl [32] 0 [] l) 0 [] none none none (by simp) (by simp) (by simp) rfl (by omega) fun p q => ⟨fun c hc => by
      rcases (spl_mem p q).2 c hc with z | z
      · cases z
      · exact hk c z, hp p q⟩
    cases hr : rdRow 0 [] (TL.spl [32] 0 [] l) with
    | inr qs =>
      rw [hr] at lp
      obtain ⟨y2, y3, y4, lp⟩ := lp
      simp only [List.map_nil] at lp
      simp [rrCode, e0, p0.1, sl_sp, sp, evS_for, lp, rrOut]
    | inl j =>
      rw [hr] at lp
      obtain ⟨g, lp⟩ := lp
      simp only [List.map_nil] at lp
      simp [rrCode, e0, p0.1, sl_sp, sp, evS_for, lp, rrOut]
  · rw [runDef_eq (by rfl)]
    have := p0.2 d hd hx
    simp [rrCode, e0, this]
theorem dStrs_map {α : Type} (f : α → Str) : ∀ l : List α, dStrs (l.map fun a => .str (f a)) = some (l.map f)
  | [] => rfl
  | a :: l => by
    show (dStrs (l.map fun a => .str (f a))).map (f a :: ·) = _
    rw [dStrs_map f l]
    rfl
theorem sum_le {k : Nat} : ∀ {l : List (List Nat)}, (∀ p ∈ l, p.length ≤ k) → ((l.map fun p => (tx p).length).sum) ≤ l.length * k
  | [], _ => by simp
  | p :: l, h => by
    have := h p List.mem_cons_self
    have ih := sum_le (l := l) fun q hq => h q (List.mem_cons_of_mem _ hq)
    simp only [List.map_cons, List.sum_cons, List.length_cons, tx_len]
    rw [Nat.succ_mul]
    simp only [tx_len] at ih
    omega
theorem pJoin_l {s : List Nat} {ps : List (List Nat)} {k : Nat} (h : ∀ p ∈ ps, p.length ≤ k) (hs : ps.length * (k + s.length) ≤ 16777216) : pJoin (.str (tx s)) (.lst (ps.map fun p => .str (tx p))) = some (.val (.str (tx (TL.joinL s ps)))) := by
  show (match dStrs (ps.map fun p => D.str (tx p)) with
    | some ys => if (ys.map (fun (y : Str) => y.length)).sum + ys.length * (tx s).length ≤ 16777216 then vd (.str (Txt.join (tx s) ys)) else none
    | none => none) = _
  rw [dStrs_map]
  dsimp only
  have z := sum_le h
  rw [List.map_map, List.length_map, if_pos (by
    rw [tx_len]
    have : (List.map ((fun x : Str => x.length) ∘ tx) ps).sum = (ps.map fun p => (tx p).length).sum := rfl
    rw [this]
    rw [Nat.mul_add] at hs
    omega)]
  exact congrArg (fun x => some (W.val (.str x))) (SX.join_S s ps)
/-- bounds of a number, in figures -/
def fz (k : Nat) (r : Rat) : Prop := r.num.natAbs < 10 ^ k ∧ r.den < 10 ^ k
theorem fz_sz {r : Rat} (h : fz 10 r) : szR 1900 r := ⟨Nat.lt_of_lt_of_le h.1 (by decide), Nat.lt_of_lt_of_le h.2 (by decide)⟩
theorem fz_len {r : Rat} (h : fz 10 r) : (ratL r).length ≤ 22 := ratL_len (by decide) h.1 h.2
def PShowN (s : List W → Option FR) : Prop := ∀ r, szR 1900 r → s [.val (nr r)] = some (.ret (.val (.str (tx (ratL r)))) [.val (nr r)])
theorem pshown (F : Fe) : PShowN (runDef F ⟨1, 1, [0], c_show_number⟩) := fun r h => run_show_number F h
def PShowRow (s : List W → Option FR) : Prop := ∀ rs : List Rat, (∀ r ∈ rs, fz 10 r) → rs.length ≤ 1000 → s [.val (.tup (rs.map nr))] = some (.ret (.val (.str (tx (TL.joinL [32] (rs.map ratL))))) [.val (.tup (rs.map nr))])
theorem map_nr {β : Type} {f : D → β} {g : Rat → β} {rs : List Rat} (h : ∀ r ∈ rs, f (nr r) = g r) : (rs.map nr).map f = rs.map g := by
  rw [List.map_map]
  exact List.map_congr_left h
/-- what a number's data writes -/
def shD : D → D
  | .tup [.int a, .int b] => .str (tx (ratL (mkRat a b.toNat)))
  | d => d
theorem shD_nr (r : Rat) : shD (nr r) = .str (tx (ratL r)) := by
  unfold nr shD
  simp only [Int.toNat_natCast, Rat.mkRat_self]
theorem run_show_row (F : Fe) (h : Fn F "show_number" PShowN) : PShowRow (runDef F ⟨1, 2, [0], c_show_row⟩) := by
  obtain ⟨s, e, p⟩ := h
  intro rs hr hl
  rw [runDef_eq (by rfl)]
  have ec := endL_map (tg := [1]) (tup := false) (c := evE F (.k (.bl true))) (e := evE F (.call "show_number" (.cons (.v 1) .nil))) (ds := rs.map nr) (bk := [(.val (.tup (rs.map nr)), none)]) (g1 := [some (.val (.tup (rs.map nr))), none]) (g2 := [some (.val (.tup (rs.map nr))), none]) shD (by simp) (fun d hd => by
    obtain ⟨r, hm, rfl⟩ := List.mem_map.mp hd
    rw [turnC_eq]
    simp [e, p r (fz_sz (hr r hm)), shD_nr]) (by rw [List.length_map]; omega)
  have e2 : (rs.map nr).map shD = (rs.map ratL).map fun p => .str (tx p) := by
    rw [map_nr fun r _ => shD_nr r, List.map_map]
    rfl
  rw [e2] at ec
  have ej := pJoin_l (s := [32]) (ps := rs.map ratL) (k := 22) (fun p hp => by
    obtain ⟨r, hm, rfl⟩ := List.mem_map.mp hp
    exact fz_len (hr r hm)) (by rw [List.length_map]; simp; omega)
  simp [-List.map_map, c_show_row, sl_sp, ec, ej]
theorem rats_free {rs : List Rat} : ∀ p ∈ rs.map ratL, 32 ∉ p := fun p hp => by
  obtain ⟨r, _, rfl⟩ := List.mem_map.mp hp
  exact ratL_free (by omega)
theorem map_numIn (rs : List Rat) : (rs.map ratL).map numIn = (rs.map fun (r : Rat) => (r.num, (r.den : Int))).map some := by
  rw [List.map_map, List.map_map]
  exact List.map_congr_left fun r _ => numIn_rat r
theorem map_prP (rs : List Rat) : (rs.map fun (r : Rat) => (r.num, (r.den : Int))).map prP = rs.map nr := by
  rw [List.map_map]
  rfl
theorem rats_spl {rs : List Rat} (h : rs ≠ []) : TL.spl [32] 0 [] (TL.joinL [32] (rs.map ratL)) = rs.map ratL := by
  rw [spl_glue 32 (by simpa using h), flat_free rats_free]
theorem read_shown {s : List W → Option FR} (hp : PRead s) {rs : List Rat} (hr : ∀ r ∈ rs, fz 10 r) (h0 : rs ≠ []) (hl : rs.length ≤ 25) : s [.val (.str (tx (TL.joinL [32] (rs.map ratL))))] = some (.ret (.val (.tup (rs.map nr))) [.val (.str (tx (TL.joinL [32] (rs.map ratL))))]) := by
  have hm : ∀ p ∈ rs.map ratL, okL p ∧ p.length ≤ 22 := fun p hp => by
    obtain ⟨r, hm, rfl⟩ := List.mem_map.mp hp
    exact ⟨ratL_ok r, fz_len (hr r hm)⟩
  have := hp.1 (TL.joinL [32] (rs.map ratL)) (joinL_ok (okL_lit rfl) fun p q => (hm p q).1) (by
    have := joinL_len (s := [32]) (k := 22) fun p q => (hm p q).2
    rw [List.length_map] at this
    simp at this
    omega) (fun p q => by rw [rats_spl h0] at q; have := (hm p q).2; omega)
  rw [this, rats_spl h0]
  have ok := rdRow_ok (rs.map ratL) _ 0 [] [] (map_numIn rs) (by rw [List.length_map]; omega)
  rw [List.append_nil] at ok
  rw [ok]
  show some (FR.ret (.val (.tup ((([] ++ rs.map fun (r : Rat) => (r.num, (r.den : Int))).map prP))) ) _) = _
  rw [List.nil_append, map_prP]
end Ev

set_option Elab.async false
set_option linter.all false
set_option maxRecDepth 100000
set_option maxHeartbeats 4000000
set_option exponentiation.threshold 10000
namespace Ev
open PySem PySem.Spec PyProof.Rows L2
theorem pPow_i {i j : Int} (h : okPow i j) : pPow (.int i) (.int j) = some (.val (.int (i ^ j.toNat))) := if_pos h
theorem ten60 : pPow (.int 10) (.int 60) = some (.val (.int 1000000000000000000000000000000000000000000000000000000000000)) := by
  rw [pPow_i (by decide)]
  rfl
theorem ten9 : pPow (.int 10) (.int 9) = some (.val (.int 1000000000)) := by
  rw [pPow_i (by decide)]
  rfl
theorem ten6 : pPow (.int 10) (.int 6) = some (.val (.int 1000000)) := by
  rw [pPow_i (by decide)]
  rfl
/-- an int of the script's size -/
def cell (i : Int) : Prop := i.natAbs.log2 < 2000000
theorem cell_of {i : Int} (h : Builtin.Int.intBits i ≤ 1048576) : cell i := by
  unfold cell
  unfold Builtin.Int.intBits at h
  by_cases e : i = 0
  · subst e
    decide
  · have : (i == 0) = false := by simpa using e
    rw [this] at h
    simp at h
    omega
theorem cell_small {i : Int} (h : i.natAbs < 2 ^ 1000) : cell i := Nat.lt_of_lt_of_le (log_lt h (by decide)) (by decide)
def PMixed (s : List W → Option FR) : Prop := ∀ i, cell i → ∃ v : Int, 0 ≤ v ∧ v < 1000000000000000000000000000000000000000000000000000000000000 ∧ s [.val (.int i)] = some (.ret (.val (.int v)) [.val (.int i)])
theorem run_mixed (F : Fe) : PMixed (runDef F ⟨1, 1, [0], c__law_mixed⟩) := fun i h => by
  rw [runDef_eq (by rfl)]
  have hm : okMul i 301029995663981195213738894724493026768189881462108541310427 := by
    unfold okMul
    unfold cell at h
    have : (301029995663981195213738894724493026768189881462108541310427 : Int).natAbs.log2 < 300 := log_lt (by decide) (by decide)
    omega
  refine ⟨(i * 301029995663981195213738894724493026768189881462108541310427).fmod 1000000000000000000000000000000000000000000000000000000000000, Int.fmod_nonneg_of_pos _ (by decide), Int.fmod_lt_of_pos _ (by decide), ?_⟩
  simp [c__law_mixed, pMul_i hm, ten60, pMod_i]
theorem cut_ints {ns : List Int} {lo hi : Option Int} : cutD (ns.map D.int) lo hi = (cutD ns lo hi).map .int := by
  unfold cutD
  rw [List.length_map, List.map_take, List.map_drop]
theorem mem_cut {α : Type} {l : List α} {lo hi : Option Int} {x : α} (h : x ∈ cutD l lo hi) : x ∈ l := List.mem_of_mem_drop (List.mem_of_mem_take h)
theorem cut_len {α : Type} {l : List α} {lo hi : Option Int} : (cutD l lo hi).length ≤ l.length := by
  unfold cutD
  rw [List.length_take, List.length_drop]
  omega
def PPack (s : List W → Option FR) : Prop := ∀ (ns : List Int) (k : Int), (∀ i ∈ ns, cell i) → ns.length ≤ 63 → 0 ≤ k → k ≤ 1000 → ∃ n : Int, s [.val (.ro (ns.map .int)), .val (.int k)] = some (.ret (.lst [.int n]) [.val (.ro (ns.map .int)), .val (.int k)])
def packB : CB := (.cons (.set 2 (.prim .add (.cons (.prim .mul (.cons (.v 2) (.cons (.prim .pow (.cons (.k (.int 10)) (.cons (.k (.int 60)) .nil))) .nil))) (.cons (.call "_law_mixed" (.cons (.prim .item (.cons (.prim .add (.cons (.sl (.v 0) (.v 3) (.prim .add (.cons (.v 3) (.cons (.k (.int 1)) .nil)))) (.cons (.lst (.cons (.prim .add (.cons (.prim .mul (.cons (.k (.int 7907)) (.cons (.v 3) .nil))) (.cons (.k (.int 53)) .nil))) .nil)) .nil))) (.cons (.k (.int 0)) .nil))) .nil)) .nil)))) .nil)
theorem packB_ap {F : Fe} {pin : List Nat} {g : Sg} : evB F pin packB g = evB F pin (.cons (.set 2 (.prim .add (.cons (.prim .mul (.cons (.v 2) (.cons (.prim .pow (.cons (.k (.int 10)) (.cons (.k (.int 60)) .nil))) .nil))) (.cons (.call "_law_mixed" (.cons (.prim .item (.cons (.prim .add (.cons (.sl (.v 0) (.v 3) (.prim .add (.cons (.v 3) (.cons (.k (.int 1)) .nil)))) (.cons (.lst (.cons (.prim .add (.cons (.prim .mul (.cons (.k (.int 7907)) (.cons (.v 3) .nil))) (.cons (.k (.int 53)) .nil))) .nil)) .nil))) (.cons (.k (.int 0)) .nil))) .nil)) .nil)))) .nil) g := rfl
theorem pack_turn (F : Fe) (h : Fn F "_law_mixed" PMixed) (ns : List Int) (k : Int) (hc : ∀ i ∈ ns, cell i) (hl : ns.length ≤ 63) (at_ f : Int) (x3 : Option W) (n3 : x3 ≠ some .out) (h0 : 0 ≤ at_) (h1 : at_ ≤ 2000) (hf : f.natAbs.log2 < 3000000) :
    ∃ v : Int, 0 ≤ v ∧ v < 1000000000000000000000000000000000000000000000000000000000000 ∧ turnF [0, 1] [3] false (evB F [0, 1] packB) (.int at_) [some (.val (.ro (ns.map .int))), some (.val (.int k)), some (.val (.int f)), x3] = some (.nx [some (.val (.ro (ns.map .int))), some (.val (.int k)), some (.val (.int (f * 1000000000000000000000000000000000000000000000000000000000000 + v))), some (.val (.int at_))]) := by
  obtain ⟨s, e, p⟩ := h
  have hm2 : okMul 7907 at_ := okMul_of (k := 20) (m := 20) (by decide) (by omega) (by decide) (by decide) (by decide)
  have hm1 : okMul f 1000000000000000000000000000000000000000000000000000000000000 := by
    unfold okMul
    have : (1000000000000000000000000000000000000000000000000000000000000 : Int).natAbs.log2 < 300 := log_lt (by decide) (by decide)
    omega
  have hd : cell (7907 * at_ + 53) := cell_small (by omega)
  obtain ⟨z, hz, hz2⟩ : ∃ z, atI (cutD (ns.map D.int) (some at_) (some (at_ + 1)) ++ [D.int (7907 * at_ + 53)]) 0 = some (.int z) ∧ cell z := by
    rw [cut_ints]
    cases q : cutD ns (some at_) (some (at_ + 1)) with
    | nil => exact ⟨_, rfl, hd⟩
    | cons a r => exact ⟨a, atI0, hc a (mem_cut (by rw [q]; exact List.mem_cons_self))⟩
  obtain ⟨v, v0, v1, hv⟩ := p z hz2
  refine ⟨v, v0, v1, ?_⟩
  have ha := pAdd_l (xs := cutD (ns.map D.int) (some at_) (some (at_ + 1))) (ys := [D.int (7907 * at_ + 53)]) (by
    have := cut_len (l := ns.map D.int) (lo := some at_) (hi := some (at_ + 1))
    rw [List.length_map] at this
    exact big_line (by simp; omega))
  simp [-List.map_map, n3, packB_ap, endSl, ten60, pMul_i hm1, pMul_i hm2, ha, hz, e, hv]
theorem run_pack (F : Fe) (h : Fn F "_law_mixed" PMixed) : PPack (runDef F ⟨2, 4, [0, 1], c__law_pack⟩) := fun ns k hc hl k0 k1 => by
  obtain ⟨v, v0, v1, hv⟩ := pack_turn F h ns k hc hl (k + 1) 0 none (by simp) (by omega) (by omega) (by decide)
  obtain ⟨u, u0, u1, hu⟩ := pack_turn F h ns k hc hl k (0 * 1000000000000000000000000000000000000000000000000000000000000 + v) (some (.val (.int (k + 1)))) (by simp) (by omega) (by omega) (Nat.lt_of_lt_of_le (log_lt (k := 300) (by omega) (by decide)) (by decide))
  refine ⟨(0 * 1000000000000000000000000000000000000000000000000000000000000 + v) * 1000000000000000000000000000000000000000000000000000000000000 + u, ?_⟩
  · have fl : forL (turnF [0, 1] [3] false (evB F [0, 1] packB)) [.int (k + 1), .int k] [some (.val (.ro (ns.map .int))), some (.val (.int k)), some (.val (.int 0)), none] = some (.nx [some (.val (.ro (ns.map .int))), some (.val (.int k)), some (.val (.int ((0 * 1000000000000000000000000000000000000000000000000000000000000 + v) * 1000000000000000000000000000000000000000000000000000000000000 + u))), some (.val (.int k))]) := by
      rw [forL_cons, hv, seqS_nx, forL_cons, hu, seqS_nx, forL_nil]
    rw [runDef_eq (by rfl)]
    unfold packB at fl
    simp [-List.map_map, c__law_pack, evS_for, fl]
def PTake (s : List W → Option FR) : Prop := ∀ n k : Int, 0 < k → k < 2 ^ 1000 → s [.lst [.int n], .val (.int k)] = some (.ret (.val (.int (n % k))) [.lst [.int (n / k)], .val (.int k)])
theorem ptake (F : Fe) : PTake (runDef F ⟨2, 3, [0, 1], c__law_take⟩) := fun n k h h2 => run_take F h (okDiv_of (k := 1000) (by omega) (by omega) (by decide) (by decide))
def PLow (s : List W → Option FR) : Prop := ∀ a b : Int, b ≠ 0 → b.natAbs < 2 ^ 8000 → s [.val (.int a), .val (.int b)] = some (.ret (.val (nr (Rat.divInt a b))) [.val (.int a), .val (.int b)])
theorem plow (F : Fe) : PLow (runDef F ⟨2, 4, [0, 1], c__law_low⟩) := fun _ _ h h2 => run_low F h h2
theorem divInt_fz {a b : Int} {k : Nat} (hk : 0 < k) (ha : a.natAbs < 10 ^ k) (hb : b.natAbs < 10 ^ k) : fz k (Rat.divInt a b) := by
  constructor
  · rw [Rat.num_divInt]
    refine Nat.lt_of_le_of_lt ?_ ha
    refine Nat.le_trans (Int.natAbs_ediv_le_natAbs _ _) ?_
    rw [Int.natAbs_mul]
    refine Nat.le_trans (Nat.mul_le_mul_right _ (show b.sign.natAbs ≤ 1 from ?_)) (by omega)
    rw [Int.natAbs_sign]
    split <;> omega
  · rw [Rat.den_divInt]
    split
    · exact Nat.one_lt_pow (by omega) (by decide)
    · exact Nat.lt_of_le_of_lt (Nat.div_le_self _ _) hb
def PNumber (s : List W → Option FR) : Prop := ∀ n w : Int, 0 ≤ w → w ≤ 100000000 → ∃ (r : Rat) (m : Int), fz 10 r ∧ s [.lst [.int n], .val (.int w)] = some (.ret (.val (nr r)) [.lst [.int m], .val (.int w)])
theorem eight {n : Int} {l : List D} {P : D → Prop} (hl : l.length = 8) (h : ∀ d ∈ l, P d) : ∃ d, atI l (n % 8) = some d ∧ P d := by
  have h0 := Int.emod_nonneg n (show (8 : Int) ≠ 0 by decide)
  have h1 := Int.emod_lt_of_pos n (show (0 : Int) < 8 by decide)
  obtain ⟨k, hk⟩ := Int.eq_ofNat_of_zero_le h0
  rw [hk, atI_nat]
  have : k < l.length := by omega
  exact ⟨l[k], List.getElem?_eq_getElem this, h _ (List.getElem_mem this)⟩
theorem run_number_d (F : Fe) (h1 : Fn F "_law_take" PTake) (h2 : Fn F "_law_low" PLow) : PNumber (runDef F ⟨2, 3, [0, 1], c__law_number⟩) := fun n w w0 w1 => by
  obtain ⟨s1, e1, p1⟩ := h1
  obtain ⟨s2, e2, p2⟩ := h2
  obtain ⟨d, hd, b, rfl, hb⟩ := eight (n := n) (l := [.int 1, .int 1, .int 1, .int 2, .int 3, .int 5, .int 12, .int 1]) (P := fun d => ∃ b : Int, d = .int b ∧ 0 < b ∧ b ≤ 12) rfl (by
    intro d hd
    simp only [List.mem_cons, List.not_mem_nil, or_false] at hd
    rcases hd with rfl | rfl | rfl | rfl | rfl | rfl | rfl | rfl <;> exact ⟨_, rfl, by decide, by decide⟩)
  have t1 := p1 n 8 (by decide) (by decide)
  have t2 := p1 (n / 8) (2 * w + 1) (by omega) (by omega)
  have hm := Int.emod_nonneg (n / 8) (show 2 * w + 1 ≠ 0 by omega)
  have hm2 := Int.emod_lt_of_pos (n / 8) (show 0 < 2 * w + 1 by omega)
  have t3 := p2 (n / 8 % (2 * w + 1) - w) b (by omega) (by omega)
  have km : okMul 2 w := okMul_of (k := 20) (m := 40) (by decide) (by omega) (by decide) (by decide) (by decide)
  refine ⟨Rat.divInt (n / 8 % (2 * w + 1) - w) b, n / 8 / (2 * w + 1), divInt_fz (by decide) (by omega) (by omega), ?_⟩
  · rw [runDef_eq (by rfl)]
    simp [c__law_number, e1, t1, hd, pMul_i km, t2, e2, t3]
end Ev

set_option Elab.async false
set_option linter.all false
set_option maxRecDepth 100000
set_option maxHeartbeats 4000000
set_option exponentiation.threshold 10000
namespace Ev
open PySem PySem.Spec PyProof.Rows L2
theorem pIsc_1 {c c' n : Str} {x : D} : pIsc c (.exc1 c' n x) = ofB (subX c' c) := by
  show (subX c' c).bind vb = _
  cases subX c' c <;> rfl
theorem sx0 : subX "NoText" "NoText" = some true := by decide
theorem sx1 : subX "NoText" "NoNumber" = some false := by decide
theorem sx2 : subX "NoText" "NoTube" = some false := by decide
theorem sx3 : subX "NoText" "NoRow" = some false := by decide
theorem sx4 : subX "NoText" "NoMeasure" = some false := by decide
theorem sx5 : subX "NoText" "NoLevel" = some false := by decide
theorem sx6 : subX "NoText" "NoData" = some false := by decide
theorem sx7 : subX "NoText" "NoPrice" = some false := by decide
theorem sx8 : subX "NoText" "NoNeeds" = some false := by decide
theorem sx9 : subX "NoText" "NoRoom" = some false := by decide
theorem sx10 : subX "NoText" "NoJobs" = some false := by decide
theorem sx11 : subX "NoText" "NoCall" = some false := by decide
theorem sx12 : subX "NoText" "NoKept" = some false := by decide
theorem sx13 : subX "NoText" "ValueError" = some true := by decide
theorem sx14 : subX "NoText" "CordError" = some true := by decide
theorem mApp {xs : List D} {d : D} (h : xs.length + 1 ≤ sizeLine) : mprim .append xs [d] = some (.non, xs ++ [d]) := by
  show (if xs.length + 1 ≤ sizeLine then some (D.non, xs ++ [d]) else none) = _
  rw [if_pos h]
def PSort (s : List W → Option FR) : Prop := ∀ x : D, s [.val (.exc1 "NoText" "part" x)] = some (.ret (.val (.int 0)) [.val (.exc1 "NoText" "part" x)])
theorem sort_sum : pSum (.lst [.bl true, .bl false, .bl false, .bl false, .bl false, .bl false, .bl false, .bl false, .bl false, .bl false, .bl false, .bl false, .bl false]) = some (.val (.int 1)) := rfl
theorem sort_ix : pIndex (.lst [.bl true, .bl false, .bl false, .bl false, .bl false, .bl false, .bl false, .bl false, .bl false, .bl false, .bl false, .bl false, .bl false]) (.bl true) = some (.val (.int 0)) := rfl
theorem run_sort (F : Fe) : PSort (runDef F ⟨1, 2, [0], c__law_sort⟩) := fun x => by
  rw [runDef_eq (by rfl)]
  have a1 := pAdd_l (xs := [.bl true, .bl false, .bl false, .bl false]) (ys := [.bl false, .bl false, .bl false, .bl false]) (by decide)
  have a2 := pAdd_l (xs := [.bl true, .bl false, .bl false, .bl false, .bl false, .bl false, .bl false, .bl false]) (ys := [.bl false, .bl false, .bl false, .bl false]) (by decide)
  have a3 := mApp (xs := [.bl true, .bl false, .bl false, .bl false, .bl false, .bl false, .bl false, .bl false, .bl false, .bl false, .bl false, .bl false]) (d := .bl false) (by decide)
  simp only [List.cons_append, List.nil_append] at a1 a2 a3
  simp [c__law_sort, pIsc_1, sx0, sx1, sx2, sx3, sx4, sx5, sx6, sx7, sx8, sx9, sx10, sx11, sx12, sx13, a1, a2, a3, sort_sum, sort_ix]
theorem fld_part {g : Sg} {x : D} {i : Nat} (h : g[i]? = some (some (.val (.exc1 "NoText" "part" x)))) : fldOf i "part" g = some x := by
  unfold fldOf
  rw [h]
  exact if_pos ⟨rfl, by decide⟩
/-- a def that refuses d with NoText, its field x -/
def Ref (s : List W → Option FR) (d x : D) : Prop := ∃ o, s [.val d] = some (.exc ⟨"NoText", some ("part", x)⟩ o)
def PRefused (F : Fe) (s : List W → Option FR) : Prop := ∀ (f : Str) (d x : D), Fn F f (fun s => Ref s d x) → eqD x x = some true → isTy "bool" x = some false → s [.val (.fn f), .val d, .val x] = some (.ret (.val (.bl true)) [.val (.fn f), .val d, .val x])
theorem isFn_0 {f : Str} {r : Sg} : isFn 0 (some (.val (.fn f)) :: r) = some f := rfl
theorem run_refused (F : Fe) (h : Fn F "_law_sort" PSort) : PRefused F (runDef F ⟨3, 5, [0, 1, 2], c__law_refused⟩) := fun f d x hf he hb => by
  obtain ⟨s, e, p⟩ := h
  obtain ⟨s2, e2, o, p2⟩ := hf
  rw [runDef_eq (by rfl)]
  have px := p x
  have hx : ∀ g : Sg, exStore [0, 1, 2] 4 3 ⟨"NoText", some ("part", x)⟩ (some (.val (.fn f)) :: some (.val d) :: some (.val x) :: some (.val .non) :: none :: g) = some (.nx (some (.val (.fn f)) :: some (.val d) :: some (.val x) :: some (.val (.exc1 "NoText" "part" x)) :: none :: g)) := fun g => rfl
  have fp := fld_part (g := [some (.val (.fn f)), some (.val d), some (.val x), some (.val (.exc1 "NoText" "part" x)), none]) (x := x) (i := 3) rfl
  simp [c__law_refused, isFn_0, e2, p2, sx14, hx, e, px, fp, he, hb]
theorem run_number_text (F : Fe) : PShowN (runDef F ⟨1, 2, [0], c__law_number_text⟩) := fun r h => by
  rw [runDef_eq (by rfl)]
  have e1 := pStr_i h.1
  have e2 := pStr_i (i := (r.den : Int)) (by rw [Int.natAbs_natCast]; exact h.2)
  have l1 := intL_len h.1
  have l2 := intL_len (i := (r.den : Int)) (by rw [Int.natAbs_natCast]; exact h.2)
  have e3 : intL (r.den : Int) = TL.numL r.den := by unfold intL; rw [if_neg (by omega), Int.natAbs_natCast]
  unfold ratL
  by_cases hd : r.den = 1
  · have hd' : (r.den : Int) = 1 := by omega
    simp [c__law_number_text, nr, hd, hd', e1]
  · have hd' : ¬ (r.den : Int) = 1 := by omega
    have p1 := pAdd_tx (a := intL r.num) (b := [47]) (by simp; omega)
    have p2 := pAdd_tx (a := intL r.num ++ [47]) (b := TL.numL r.den) (by rw [e3] at l2; simp; omega)
    rw [e3] at e2
    simp [c__law_number_text, nr, hd, hd', e1, e2, sl_str, p1, p2]
theorem compL_inv {f : D → Sg → Option (Option D × Sg)} (I : Sg → Prop) (Q : D → Prop) : ∀ (ds : List D), (∀ d ∈ ds, ∀ g, I g → ∃ x g', f d g = some (some x, g') ∧ I g' ∧ Q x) → ∀ g, I g → ∃ xs g', compL f ds g = some (xs, g') ∧ I g' ∧ xs.length = ds.length ∧ ∀ x ∈ xs, Q x
  | [], _, g, hg => ⟨[], g, rfl, hg, rfl, fun _ h => nomatch h⟩
  | d :: ds, h, g, hg => by
    obtain ⟨x, g1, h1, h2, h3⟩ := h d List.mem_cons_self g hg
    obtain ⟨xs, g2, h4, h5, h6, h7⟩ := compL_inv I Q ds (fun e he => h e (List.mem_cons_of_mem _ he)) g1 h2
    refine ⟨x :: xs, g2, ?_, h5, by simp [h6], fun y hy => ?_⟩
    · unfold compL
      rw [h1]
      dsimp only
      rw [h4]
    · rcases List.mem_cons.mp hy with rfl | hy
      · exact h3
      · exact h7 y hy
theorem forL_ex {f : D → Sg → Option SR} (I : Sg → Prop) : ∀ (ds : List D), (∀ d ∈ ds, ∀ g, I g → ∃ g', f d g = some (.nx g') ∧ I g') → ∀ g, I g → ∃ g', forL f ds g = some (.nx g') ∧ I g'
  | [], _, g, hg => ⟨g, rfl, hg⟩
  | d :: ds, h, g, hg => by
    obtain ⟨g1, h1, h2⟩ := h d List.mem_cons_self g hg
    obtain ⟨g2, h3, h4⟩ := forL_ex I ds (fun e he => h e (List.mem_cons_of_mem _ he)) g1 h2
    exact ⟨g2, by rw [forL_cons, h1, seqS_nx, h3], h4⟩
end Ev

set_option Elab.async false
set_option linter.all false
set_option maxRecDepth 100000
set_option maxHeartbeats 4000000
set_option exponentiation.threshold 10000
namespace Ev
open PySem PySem.Spec PyProof.Rows L2
def pyN (r : Rat) : PyData := .tuple [.int r.num, .int r.den]
theorem toP_nr (r : Rat) : (nr r).toP = some (pyN r) := rfl
theorem toPs_nr : ∀ rs : List Rat, D.toPs (rs.map nr) = some (rs.map pyN)
  | [] => rfl
  | r :: rs => by
    show (match (nr r).toP, D.toPs (rs.map nr) with
      | some a, some b => some (a :: b)
      | _, _ => none) = _
    rw [toPs_nr rs, toP_nr]
    rfl
theorem eqv_pyN (a b : Rat) : PyData.eqv (pyN a) (pyN b) = decide (a = b) := by
  have h : (a = b) ↔ (a.num = b.num ∧ a.den = b.den) := ⟨fun h => by rw [h]; exact ⟨rfl, rfl⟩, fun h => Rat.ext h.1 h.2⟩
  simp only [pyN, PyData.eqv, PyData.eqvAll]
  by_cases h1 : a.num = b.num
  · by_cases h2 : a.den = b.den
    · simp [h, h1, h2]
    · have : ¬ ((a.den : Int) = (b.den : Int)) := by omega
      simp [h, h1, h2, this]
  · simp [h, h1]
theorem eqvAll_pyN : ∀ as bs : List Rat, PyData.eqvAll (as.map pyN) (bs.map pyN) = decide (as = bs)
  | [], [] => by simp [PyData.eqvAll]
  | [], b :: bs => by simp [PyData.eqvAll]
  | a :: as, [] => by simp [PyData.eqvAll]
  | a :: as, b :: bs => by
    simp only [List.map_cons, PyData.eqvAll, eqv_pyN, eqvAll_pyN as bs]
    by_cases h1 : a = b <;> by_cases h2 : as = bs <;> simp [h1, h2]
theorem lay_pyN : ∀ rs : List Rat, PyData.canLayAll0 (rs.map pyN) = true
  | [] => rfl
  | r :: rs => by
    show (PyData.canLay0 (pyN r) && PyData.canLayAll0 (rs.map pyN)) = true
    rw [lay_pyN rs]
    rfl
theorem depth_pyN : ∀ rs : List Rat, (PyData.tuple (rs.map pyN)).depth ≤ 64 := by
  intro rs
  have : ∀ rs : List Rat, PyData.depthAll (rs.map pyN) ≤ 10 := by
    intro rs
    induction rs with
    | nil => simp [PyData.depthAll]
    | cons r rs ih =>
      simp only [List.map_cons, PyData.depthAll]
      have : (pyN r).depth ≤ 10 := by simp [pyN, PyData.depth, PyData.depthAll]
      omega
  have := this rs
  simp only [PyData.depth]
  omega
theorem eqD_nr (a b : Rat) : eqD (nr a) (nr b) = some (decide (a = b)) := by
  unfold eqD
  rw [toP_nr, toP_nr]
  dsimp only
  have s : ∀ r, SeqAt.shaped (pyN r) = true := fun r => by simp [pyN, SeqAt.shaped, PyData.canLay0, PyData.canLayAll0, PyData.depth, PyData.depthAll]
  rw [if_pos ⟨s a, s b⟩, eqv_pyN]
theorem eqD_nrs (as bs : List Rat) : eqD (.tup (as.map nr)) (.tup (bs.map nr)) = some (decide (as = bs)) := by
  have h : ∀ rs : List Rat, (D.tup (rs.map nr)).toP = some (.tuple (rs.map pyN)) := fun rs => by
    show (D.toPs (rs.map nr)).map PyData.tuple = _
    rw [toPs_nr]
    rfl
  have s : ∀ rs : List Rat, SeqAt.shaped (.tuple (rs.map pyN)) = true := fun rs => by
    unfold SeqAt.shaped
    rw [Bool.and_eq_true]
    exact ⟨lay_pyN rs, decide_eq_true (depth_pyN rs)⟩
  unfold eqD
  rw [h, h]
  dsimp only
  rw [if_pos ⟨s as, s bs⟩]
  congr 1
  exact eqvAll_pyN as bs
theorem cutD_to {α : Type} {xs : List α} {k : Nat} : cutD xs none (some (k : Int)) = xs.take k := by
  unfold cutD
  rw [HT.sIx_none, HT.sIx_nat, List.drop_zero, Nat.sub_zero]
  by_cases h : k ≤ xs.length
  · rw [Nat.min_eq_left h]
  · rw [Nat.min_eq_right (by omega), List.take_of_length_le (Nat.le_refl _), List.take_of_length_le (by omega)]
theorem cutD_from {α : Type} {xs : List α} {k : Nat} : cutD xs (some (k : Int)) none = xs.drop k := by
  unfold cutD
  rw [HT.sIx_none, HT.sIx_nat, List.take_of_length_le (by rw [List.length_drop]; omega)]
  by_cases h : k ≤ xs.length
  · rw [Nat.min_eq_left h]
  · rw [Nat.min_eq_right (by omega), List.drop_eq_nil_of_le (Nat.le_refl _), List.drop_eq_nil_of_le (by omega)]
def firstBad : List (List Nat) → Option Nat
  | [] => none
  | p :: ps => if (numIn p).isSome = true then (firstBad ps).map (· + 1) else some 0
theorem rdRow_first : ∀ (ps : List (List Nat)) (k : Nat) (acc : List (Int × Int)) (j : Nat), firstBad ps = some j → k + j ≤ 25 → rdRow k acc ps = .inl (k + j)
  | [], _, _, _, h, _ => by cases h
  | p :: ps, k, acc, j, h, hk => by
    unfold firstBad at h
    unfold rdRow
    cases hn : numIn p with
    | none =>
      rw [hn] at h
      simp at h
      subst h
      rfl
    | some q =>
      rw [hn] at h
      simp at h
      obtain ⟨i, hi, rfl⟩ := h
      dsimp only
      rw [if_neg (by omega), rdRow_first ps (k + 1) (acc ++ [q]) i hi (by omega)]
      congr 1
      omega
theorem firstBad_app : ∀ (as bs : List (List Nat)), (∀ p ∈ as, (numIn p).isSome = true) → firstBad (as ++ bs) = (firstBad bs).map (as.length + ·)
  | [], bs, _ => by simp
  | a :: as, bs, h => by
    show (if (numIn a).isSome = true then (firstBad (as ++ bs)).map (· + 1) else some 0) = _
    rw [if_pos (h a List.mem_cons_self), firstBad_app as bs fun p hp => h p (List.mem_cons_of_mem _ hp), Option.map_map]
    congr 1
    funext x
    simp
    omega
theorem firstBad_more : ∀ (as bs : List (List Nat)) (j : Nat), firstBad as = some j → firstBad (as ++ bs) = some j
  | [], _, _, h => by cases h
  | a :: as, bs, j, h => by
    unfold firstBad at h
    show (if (numIn a).isSome = true then (firstBad (as ++ bs)).map (· + 1) else some 0) = _
    by_cases ha : (numIn a).isSome = true
    · rw [if_pos ha] at h ⊢
      obtain ⟨i, hi, rfl⟩ := Option.map_eq_some_iff.mp h
      rw [firstBad_more as bs i hi]
      rfl
    · rw [if_neg ha] at h ⊢
      exact h
theorem rat_good {rs : List Rat} : ∀ p ∈ rs.map ratL, (numIn p).isSome = true := fun p hp => by
  obtain ⟨r, _, rfl⟩ := List.mem_map.mp hp
  rw [numIn_rat]
  rfl
/-- what read_row refuses -/
def RR (d x : D) : Prop := (∃ l, d = .str (tx l) ∧ okL l ∧ l.length ≤ 100000 ∧ (∀ p ∈ TL.spl [32] 0 [] l, p.length ≤ 640) ∧ ∃ k : Nat, x = .int k ∧ rdRow 0 [] (TL.spl [32] 0 [] l) = .inl k) ∨ (plain d = true ∧ (∀ y, d ≠ .str y) ∧ x = .non)
theorem ref_of {s : List W → Option FR} (hp : PRead s) {d x : D} (h : RR d x) : Ref s d x ∧ eqD x x = some true ∧ isTy "bool" x = some false := by
  rcases h with ⟨l, rfl, h1, h2, h3, k, rfl, h4⟩ | ⟨h1, h2, rfl⟩
  · refine ⟨⟨_, (hp.1 l h1 h2 h3).trans (by rw [h4]; rfl)⟩, by simp, rfl⟩
  · exact ⟨⟨_, hp.2 d h1 h2⟩, rfl, rfl⟩
def PRefRow (s : List W → Option FR) : Prop := ∀ d x, RR d x → s [.val (.fn "read_row"), .val d, .val x] = some (.ret (.val (.bl true)) [.val (.fn "read_row"), .val d, .val x])
theorem prefrow {F : Fe} {s : List W → Option FR} (h : PRefused F s) (hr : Fn F "read_row" PRead) : PRefRow s := fun d x q => by
  obtain ⟨t, e, p⟩ := hr
  obtain ⟨h1, h2, h3⟩ := ref_of p q
  exact h _ d x ⟨t, e, h1⟩ h2 h3
/-- parts glued, some of them bad -/
theorem rr_parts {ps : List (List Nat)} {j : Nat} (h0 : ps ≠ []) (hm : ∀ p ∈ ps, okL p ∧ p.length ≤ 30) (hl : ps.length ≤ 1000) (hb : firstBad (ps.flatMap (TL.spl [32] 0 [])) = some j) (hj : j ≤ 25) : RR (.str (tx (TL.joinL [32] ps))) (.int j) := by
  have e := spl_glue 32 h0
  refine .inl ⟨_, rfl, joinL_ok (okL_lit rfl) fun p q => (hm p q).1, ?_, fun p q => ?_, j, rfl, ?_⟩
  · have := joinL_len (s := [32]) (k := 30) fun p q => (hm p q).2
    simp at this
    omega
  · rw [e] at q
    obtain ⟨a, ha, hq⟩ := List.mem_flatMap.mp q
    have := (spl_mem p hq).1
    have := (hm a ha).2
    simp at *
    omega
  · rw [e, rdRow_first _ 0 [] j hb (by omega), Nat.zero_add]
theorem rats_ok {rs : List Rat} (hr : ∀ r ∈ rs, fz 10 r) : ∀ p ∈ rs.map ratL, okL p ∧ p.length ≤ 30 := fun p hp => by
  obtain ⟨r, hm, rfl⟩ := List.mem_map.mp hp
  have := fz_len (hr r hm)
  exact ⟨ratL_ok r, by omega⟩
theorem flat_rats {rs : List Rat} : (rs.map ratL).flatMap (TL.spl [32] 0 []) = rs.map ratL := flat_free rats_free
/-- an odd part put in at a place -/
theorem rr_odd {rs : List Rat} (hr : ∀ r ∈ rs, fz 10 r) (hl : rs.length ≤ 24) {k : Nat} (hk : k < rs.length) {o : List Nat} (ho : okL o) (hol : o.length ≤ 30) {j : Nat} (hj : j ≤ 1) (hb : firstBad (TL.spl [32] 0 [] o) = some j) :
    RR (.str (tx (TL.joinL [32] ((rs.map ratL).take k ++ [o] ++ (rs.map ratL).drop (k + 1))))) (.int ((k + j : Nat) : Int)) := by
  have hm := rats_ok hr
  refine rr_parts (by simp) (fun p hp => ?_) (by simp; omega) ?_ (by omega)
  · rcases List.mem_append.mp hp with hp | hp
    · rcases List.mem_append.mp hp with hp | hp
      · exact hm p (List.mem_of_mem_take hp)
      · rw [List.mem_singleton.mp hp]
        exact ⟨ho, hol⟩
    · exact hm p (List.mem_of_mem_drop hp)
  · rw [List.flatMap_append, List.flatMap_append, ← List.map_take, ← List.map_drop, flat_rats, flat_rats, List.append_assoc, firstBad_app _ _ rat_good, List.flatMap_singleton]
    rw [firstBad_more _ _ j hb]
    simp
    omega
end Ev

set_option Elab.async false
set_option linter.all false
set_option maxRecDepth 100000
set_option maxHeartbeats 4000000
set_option exponentiation.threshold 10000
namespace Ev
open PySem PySem.Spec PyProof.Rows L2
@[simp] theorem testW_non {g : Sg} {f : Bool → Option (ER W)} : testW (.val .non) g f = f false := Eq.trans rfl rfl
@[simp] theorem testW_tup {g : Sg} {d : D} {ds : List D} {f : Bool → Option (ER W)} : testW (.val (.tup (d :: ds))) g f = f true := Eq.trans rfl rfl
theorem pre2_hit {c d : Nat} {r : List Nat} : TL.pre [c, d] (c :: d :: r) = true := by simp [TL.pre]
theorem spl_app2 {c d : Nat} (hcd : c ≠ d) : ∀ (n : Nat) (a b acc : List Nat), a.length ≤ n → TL.spl [c, d] 0 acc (a ++ c :: d :: b) = TL.spl [c, d] 0 acc a ++ TL.spl [c, d] 0 [] b
  | _, [], b, acc, _ => by
    rw [List.nil_append, TL.spl_hit pre2_hit, TL.spl_nil]
    rfl
  | 0, _ :: _, _, _, h => by simp at h
  | n + 1, x :: a, b, acc, h => by
    simp only [List.length_cons] at h
    cases a with
    | nil =>
      have h1 : TL.pre [c, d] (x :: ([] ++ c :: d :: b)) = false := by
        simp [TL.pre]
        intro _
        exact hcd
      have h2 : TL.pre [c, d] [x] = false := by simp [TL.pre]
      show TL.spl [c, d] 0 acc (x :: ([] ++ c :: d :: b)) = _
      rw [TL.spl_miss h1, TL.spl_miss h2]
      exact spl_app2 hcd n [] b (acc ++ [x]) (by simp)
    | cons y a =>
      have hp : TL.pre [c, d] (x :: (y :: a ++ c :: d :: b)) = TL.pre [c, d] (x :: y :: a) := by simp [TL.pre]
      show TL.spl [c, d] 0 acc (x :: (y :: a ++ c :: d :: b)) = _
      by_cases hh : TL.pre [c, d] (x :: y :: a) = true
      · rw [TL.spl_hit hh, TL.spl_hit (by rw [hp]; exact hh)]
        show acc :: TL.spl [c, d] 0 [] (a ++ c :: d :: b) = acc :: TL.spl [c, d] 0 [] a ++ _
        rw [spl_app2 hcd n a b [] (by simp at h; omega)]
        rfl
      · have hh : TL.pre [c, d] (x :: y :: a) = false := by simpa using hh
        rw [TL.spl_miss hh, TL.spl_miss (by rw [hp]; exact hh)]
        exact spl_app2 hcd n (y :: a) b (acc ++ [x]) (by simp at h ⊢; omega)
theorem spl_glue2 {c d : Nat} (hcd : c ≠ d) : ∀ {ps : List (List Nat)}, ps ≠ [] → TL.spl [c, d] 0 [] (TL.joinL [c, d] ps) = ps.flatMap (TL.spl [c, d] 0 [])
  | [], h => absurd rfl h
  | [p], _ => by
    show TL.spl [c, d] 0 [] p = _
    rw [List.flatMap_cons, List.flatMap_nil, List.append_nil]
  | p :: q :: r, _ => by
    have ih := spl_glue2 hcd (ps := q :: r) (by simp)
    show TL.spl [c, d] 0 [] (p ++ (c :: d :: TL.joinL [c, d] (q :: r))) = _
    rw [spl_app2 hcd _ _ _ _ (Nat.le_refl _), ih]
    rfl
theorem spl_free2 {c d : Nat} {p : List Nat} (h : c ∉ p) : TL.spl [c, d] 0 [] p = [p] := by
  rw [TL.spl_last1 h]
  rfl
theorem flat_free2 {c d : Nat} : ∀ {ps : List (List Nat)}, (∀ p ∈ ps, c ∉ p) → ps.flatMap (TL.spl [c, d] 0 []) = ps
  | [], _ => rfl
  | p :: r, h => by
    rw [List.flatMap_cons, spl_free2 (h p List.mem_cons_self), flat_free2 fun q hq => h q (List.mem_cons_of_mem _ hq)]
    rfl
theorem dv_fold : ∀ (l : List Nat) (a k : Nat), NumText.AllDigits l → a < 10 ^ k → l.foldl (fun acc c => acc * 10 + (c - 48)) a < 10 ^ (k + l.length)
  | [], a, k, _, h => h
  | c :: r, a, k, hd, h => by
    have hc := hd c List.mem_cons_self
    have := dv_fold r (a * 10 + (c - 48)) (k + 1) (fun x hx => hd x (List.mem_cons_of_mem _ hx)) (by rw [Nat.pow_succ]; omega)
    rw [List.length_cons, show k + (r.length + 1) = k + 1 + r.length by omega]
    exact this
theorem dv_lt {l : List Nat} (h : NumText.AllDigits l) : NumText.digitsVal l < 10 ^ l.length := by
  have := dv_fold l 0 0 h (by decide)
  rw [Nat.zero_add] at this
  exact this
theorem valL_lt {l : List Nat} (h : figs (stripL l) = true) : (valL l).natAbs < 10 ^ l.length := by
  obtain ⟨h1, _⟩ := figs_digits h
  unfold stripL at h1
  unfold valL
  by_cases e : l.take 1 = [45]
  · rw [if_pos e] at h1 ⊢
    have := dv_lt h1
    rw [Int.natAbs_neg, Int.natAbs_natCast]
    refine Nat.lt_of_lt_of_le this (Nat.pow_le_pow_right (by decide) ?_)
    rw [List.length_tail]
    omega
  · rw [if_neg e] at h1 ⊢
    have := dv_lt h1
    rw [Int.natAbs_natCast]
    exact this
theorem ten_two (k : Nat) : 10 ^ k ≤ 2 ^ (4 * k) := by
  rw [Nat.pow_mul]
  exact Nat.pow_le_pow_left (by decide) k
theorem numIn_lt {l : List Nat} {q : Int × Int} (h : numIn l = some q) (hl : l.length ≤ 640) : q.1.natAbs < 2 ^ 2560 ∧ q.2.natAbs < 2 ^ 2560 ∧ lowB q.1 q.2 = true := by
  have big : ∀ k, k ≤ 640 → 10 ^ k ≤ 2 ^ 2560 := fun k hk => Nat.le_trans (Nat.pow_le_pow_right (by decide) hk) (ten_two 640)
  unfold numIn at h
  cases hp : TL.par [47] [] l with
  | none =>
    rw [hp] at h
    dsimp only at h
    split at h
    · rename_i hc
      cases h
      simp only [Bool.and_eq_true] at hc
      refine ⟨Nat.lt_of_lt_of_le (valL_lt hc.1) (big _ hl), Nat.one_lt_pow (by decide) (by decide), ?_⟩
      unfold lowB
      simp
    · cases h
  | some tb =>
    obtain ⟨t, b⟩ := tb
    obtain ⟨lt, lb⟩ := par_len hp
    simp only [List.length_nil, Nat.zero_add] at lt
    rw [hp] at h
    dsimp only at h
    split at h
    · rename_i hc
      cases h
      simp only [Bool.and_eq_true] at hc
      obtain ⟨⟨⟨⟨h1, h2⟩, h3⟩, h4⟩, h5⟩ := hc
      exact ⟨Nat.lt_of_lt_of_le (valL_lt h1) (big _ (by omega)), Nat.lt_of_lt_of_le (valL_lt (by rw [figs_strip h3]; exact h3)) (big _ (by omega)), h5⟩
    · cases h
def PLess (s : List W → Option FR) : Prop := ∀ a b c d : Int, okMul a d → okMul c b → s [.val (.tup [.int a, .int b]), .val (.tup [.int c, .int d])] = some (.ret (.val (.bl (decide (a * d < c * b)))) [.val (.tup [.int a, .int b]), .val (.tup [.int c, .int d])])
theorem run_is_less (F : Fe) : PLess (runDef F ⟨2, 2, [0, 1], c_is_less⟩) := fun a b c d h h2 => by
  rw [runDef_eq (by rfl)]
  simp [c_is_less, pMul_i h, pMul_i h2]
theorem less_nr {s : List W → Option FR} (h : PLess s) {a b : Rat} (ha : szR 4000 a) (hb : szR 4000 b) : s [.val (nr a), .val (nr b)] = some (.ret (.val (.bl (decide (a < b)))) [.val (nr a), .val (nr b)]) := by
  have e : (a < b) ↔ a.num * b.den < b.num * a.den := Rat.lt_iff a b
  have := h a.num a.den b.num b.den (okMul_of (k := 4000) (m := 4000) ha.1 (by rw [Int.natAbs_natCast]; exact hb.2) (by decide) (by decide) (by decide)) (okMul_of (k := 4000) (m := 4000) hb.1 (by rw [Int.natAbs_natCast]; exact ha.2) (by decide) (by decide) (by decide))
  unfold nr
  rw [this]
  congr 4
  exact decide_eq_decide.mpr e.symm
def placeIn (l : List Nat) : Option D := match TL.par [46, 46] [] l with
  | none => (numIn l).map fun q => .tup [prP q, prP q]
  | some (a, b) => match numIn a, numIn b with
    | some p, some q => if p.1 * q.2 < q.1 * p.2 then some (.tup [prP p, prP q]) else none
    | _, _ => none
def optD : Option D → D
  | none => .non
  | some d => d
def PPart (f : List Nat → Option D) (s : List W → Option FR) : Prop := ∀ l, okL l → l.length ≤ 640 → s [.val (.str (tx l))] = some (.ret (.val (optD (f l))) [.val (.str (tx l))])
theorem sl_dd : Str.ofString ".." = tx [46, 46] := by decide
theorem partg_some {sep l t b : List Nat} (hs : sep ≠ []) (h : TL.par sep [] l = some (t, b)) : Txt.partition (tx l) (tx sep) = (tx t, tx sep, tx b) := SX.partition_some hs h
theorem partg_none {sep l : List Nat} (hs : sep ≠ []) (h : TL.par sep [] l = none) : Txt.partition (tx l) (tx sep) = (tx l, tx [], tx []) := SX.partition_none hs h
theorem run_place_in (F : Fe) (h1 : Fn F "number_in" PNumIn) (h2 : Fn F "is_less" PLess) : PPart placeIn (runDef F ⟨1, 6, [0], c_place_in⟩) := by
  obtain ⟨s1, e1, p1⟩ := h1
  obtain ⟨s2, e2, p2⟩ := h2
  intro l hk hl
  rw [runDef_eq (by rfl)]
  have pp := pPart_tx (l := l) (s := [46, 46]) (by omega) (by simp)
  unfold placeIn
  cases hpar : TL.par [46, 46] [] l with
  | none =>
    rw [partg_none (by simp) hpar] at pp
    have f1 := p1 l hk hl
    have e3 := eqD_tx (a := []) (b := []) okL_nil okL_nil
    cases hn : numIn l with
    | none =>
      rw [hn] at f1
      simp [c_place_in, sl_dd, sl_e, pp, e1, f1, prD, e3, optD]
    | some q =>
      rw [hn, prD_some] at f1
      simp [c_place_in, sl_dd, sl_e, pp, e1, f1, e3, optD, prP]
  | some ab =>
    obtain ⟨a, b⟩ := ab
    rw [partg_some (by simp) hpar] at pp
    obtain ⟨la, lb⟩ := par_len hpar
    obtain ⟨ma, mb⟩ := par_mem hpar
    simp only [List.length_nil, Nat.zero_add] at la
    have ka : okL a := fun c hc => (ma c hc).elim (fun h => nomatch h) (hk c)
    have kb : okL b := fun c hc => hk c (mb c hc)
    have f1 := p1 a ka (by omega)
    have f2 := p1 b kb (by omega)
    have e3 := eqD_tx (a := [46, 46]) (b := []) (okL_lit rfl) okL_nil
    dsimp only
    cases hn : numIn a with
    | none =>
      rw [hn] at f1
      simp [c_place_in, sl_dd, sl_e, pp, e1, f1, f2, prD, e3, optD]
    | some p =>
      rw [hn, prD_some] at f1
      cases hm : numIn b with
      | none =>
        rw [hm] at f2
        simp [c_place_in, sl_dd, sl_e, pp, e1, f1, f2, prD, e3, optD, prP]
      | some q =>
        rw [hm, prD_some] at f2
        obtain ⟨b1, b2, _⟩ := numIn_lt hn (by omega)
        obtain ⟨b3, b4, _⟩ := numIn_lt hm (by omega)
        have ls := p2 p.1 p.2 q.1 q.2 (okMul_of b1 b4 (by decide) (by decide) (by decide)) (okMul_of b3 b2 (by decide) (by decide) (by decide))
        unfold prP at f1 f2
        by_cases hlt : p.1 * q.2 < q.1 * p.2
        · simp [c_place_in, sl_dd, sl_e, pp, e1, f1, f2, e3, optD, prP, e2, ls, hlt]
        · simp [c_place_in, sl_dd, sl_e, pp, e1, f1, f2, e3, optD, prP, e2, ls, hlt]
end Ev

set_option Elab.async false
set_option linter.all false
set_option maxRecDepth 100000
set_option maxHeartbeats 4000000
set_option exponentiation.threshold 10000
namespace Ev
open PySem PySem.Spec PyProof.Rows L2
mutual
def sane : D → Bool
  | .non => true
  | .bl _ => true
  | .int i => decide (i.natAbs < 2 ^ 2000)
  | .str x => PyData.strOk x && decide (x.length ≤ 1000)
  | .tup xs => decide (xs.length ≤ 1000) && sanes xs
  | .lst xs => decide (xs.length ≤ 1000) && sanes xs
  | .emp => true
  | _ => false
def sanes : List D → Bool
  | [] => true
  | d :: ds => sane d && sanes ds
end
mutual
theorem sane_plain : ∀ d : D, sane d = true → plain d = true
  | .non, _ => rfl
  | .bl _, _ => rfl
  | .int _, _ => rfl
  | .str _, _ => rfl
  | .tup xs, h => by
    unfold sane at h
    unfold plain
    exact sanes_plains xs (Bool.and_eq_true_iff.mp h).2
  | .lst xs, h => by
    unfold sane at h
    unfold plain
    exact sanes_plains xs (Bool.and_eq_true_iff.mp h).2
  | .emp, _ => rfl
  | .ro _, h => by unfold sane at h; cases h
  | .fn _, h => by unfold sane at h; cases h
  | .exc0 _, h => by unfold sane at h; cases h
  | .exc1 _ _ _, h => by unfold sane at h; cases h
theorem sanes_plains : ∀ ds : List D, sanes ds = true → plains ds = true
  | [], _ => rfl
  | d :: ds, h => by
    unfold sanes at h
    unfold plains
    obtain ⟨h1, h2⟩ := Bool.and_eq_true_iff.mp h
    rw [sane_plain d h1, sanes_plains ds h2]
    rfl
end
theorem sanes_mem : ∀ {ds : List D} {d : D}, sanes ds = true → d ∈ ds → sane d = true
  | e :: ds, d, h, hm => by
    unfold sanes at h
    obtain ⟨h1, h2⟩ := Bool.and_eq_true_iff.mp h
    rcases List.mem_cons.mp hm with rfl | hm
    · exact h1
    · exact sanes_mem h2 hm
theorem sanes_of : ∀ {ds : List D}, (∀ d ∈ ds, sane d = true) → sanes ds = true
  | [], _ => rfl
  | e :: ds, h => by
    unfold sanes
    rw [h e List.mem_cons_self, sanes_of fun d hd => h d (List.mem_cons_of_mem _ hd)]
    rfl
theorem sane_tup {xs : List D} (h : sane (.tup xs) = true) : xs.length ≤ 1000 ∧ ∀ d ∈ xs, sane d = true := by
  unfold sane at h
  obtain ⟨h1, h2⟩ := Bool.and_eq_true_iff.mp h
  exact ⟨of_decide_eq_true h1, fun d hd => sanes_mem h2 hd⟩
theorem sane_int {i : Int} (h : sane (.int i) = true) : i.natAbs < 2 ^ 2000 := by unfold sane at h; exact of_decide_eq_true h
def PIsNumS (s : List W → Option FR) : Prop := ∀ d, sane d = true → s [.val d] = some (.ret (.val (.bl (numD d))) [.val d])
theorem pisnums {s : List W → Option FR} (h : PIsNumber s) : PIsNumS s := fun d hd => h d (sane_plain d hd) (by
  cases d with
  | tup xs =>
    have := (sane_tup hd).1
    show xs.length ≤ 100000
    omega
  | _ => exact Nat.zero_le _)
theorem numD_elim {d : D} (h : numD d = true) : ∃ a b : Int, d = .tup [.int a, .int b] ∧ lowB a b = true := by
  unfold numD at h
  split at h
  · exact ⟨_, _, rfl, h⟩
  · cases h
/-- a number's value -/
def ratD : D → Rat
  | .tup [.int a, .int b] => Rat.divInt a b
  | _ => 0
theorem numD_nr {d : D} (h : numD d = true) : d = nr (ratD d) := by
  obtain ⟨a, b, rfl, h⟩ := numD_elim h
  have h : lowB a b = true := h
  unfold lowB at h
  simp only [Bool.and_eq_true, decide_eq_true_eq] at h
  obtain ⟨h1, h2⟩ := h
  obtain ⟨p1, p2⟩ := divInt_parts (a := a) (b := b) (by omega)
  unfold nr ratD
  rw [p1, p2, h2]
  simp
theorem numD_of (r : Rat) : numD (nr r) = true := by
  show lowB r.num r.den = true
  unfold lowB
  have g : Int.gcd r.num r.den = 1 := r.reduced
  have p := r.den_pos
  rw [g]
  simp
  omega
theorem ratD_nr (r : Rat) : ratD (nr r) = r := by
  unfold nr ratD
  exact Rat.num_divInt_den r
theorem sane_nr {r : Rat} (h : szR 2000 r) : sane (nr r) = true := by
  unfold nr sane
  simp [sanes, sane]
  exact ⟨h.1, h.2⟩
theorem sz_sane {r : Rat} (h : sane (nr r) = true) : szR 2000 r := by
  have := (sane_tup h).2
  have h1 := sane_int (this (.int r.num) (by simp))
  have h2 := sane_int (this (.int r.den) (by simp))
  exact ⟨h1, by rw [Int.natAbs_natCast] at h2; exact h2⟩
theorem szR_mono {r : Rat} {k m : Nat} (h : szR k r) (hm : k ≤ m) : szR m r := ⟨Nat.lt_of_lt_of_le h.1 (Nat.pow_le_pow_right (by decide) hm), Nat.lt_of_lt_of_le h.2 (Nat.pow_le_pow_right (by decide) hm)⟩
def pairD : D → Bool
  | .tup [a, b] => numD a && numD b && !decide (ratD b < ratD a)
  | _ => false
def PPair (s : List W → Option FR) : Prop := ∀ d, sane d = true → s [.val d] = some (.ret (.val (.bl (pairD d))) [.val d])
theorem len2_cases {xs : List D} (h : xs.length ≠ 2) : pairD (.tup xs) = false := by
  match xs, h with
  | [], _ => rfl
  | [_], _ => rfl
  | [_, _], h => exact absurd rfl h
  | _ :: _ :: _ :: _, _ => rfl
theorem run_is_pair (F : Fe) (h1 : Fn F "is_number" PIsNumS) (h2 : Fn F "is_less" PLess) : PPair (runDef F ⟨1, 1, [0], c_is_pair⟩) := by
  obtain ⟨s1, e1, p1⟩ := h1
  obtain ⟨s2, e2, p2⟩ := h2
  intro d hd
  rw [runDef_eq (by rfl)]
  cases d with
  | tup xs =>
    obtain ⟨hl, hm⟩ := sane_tup hd
    by_cases h2l : xs.length = 2
    · match xs, h2l with
      | [a, b], _ =>
        have fa := p1 a (hm a (by simp))
        have fb := p1 b (hm b (by simp))
        cases ha : numD a with
        | false =>
          rw [ha] at fa
          simp [c_is_pair, e1, fa, pairD, ha]
        | true =>
          rw [ha] at fa
          cases hb : numD b with
          | false =>
            rw [hb] at fb
            simp [c_is_pair, e1, fa, fb, pairD, ha, hb]
          | true =>
            rw [hb] at fb
            have ea := numD_nr ha
            have eb := numD_nr hb
            have za := sz_sane (by rw [← ea]; exact hm a (by simp))
            have zb := sz_sane (by rw [← eb]; exact hm b (by simp))
            have ls := less_nr p2 (szR_mono zb (by decide)) (szR_mono za (by decide))
            rw [← ea, ← eb] at ls
            simp [c_is_pair, e1, fa, fb, e2, ls, pairD, ha, hb]
    · have e2 : decide ((xs.length : Int) = 2) = false := decide_eq_false (by omega)
      rw [len2_cases h2l]
      simp [c_is_pair, e2]
  | _ => first | (unfold sane at hd; cases hd; done) | simp [c_is_pair, pairD]
def tubeD : D → Bool
  | .tup xs => decide (2 ≤ xs.length) && decide (xs.length ≤ 25) && xs.all pairD
  | _ => false
def PTube (s : List W → Option FR) : Prop := ∀ d, sane d = true → s [.val d] = some (.ret (.val (.bl (tubeD d))) [.val d])
def isTubeC (m : Str) : CB := (.cons (.iff (.or (.not (.prim (.isi "tuple") (.cons (.v 0) .nil))) (.not (.chain .le .le (.k (.int 2)) (.prim .len (.cons (.v 0) .nil)) (.g m)))) (.cons (.ret (.k (.bl false))) .nil) .nil) (.cons (.ret (.prim .all (.cons (.comp (.seq (.v 0)) [1] false (.k (.bl true)) (.call "is_pair" (.cons (.v 1) .nil))) .nil))) .nil))
theorem cmpB_le {i j : Int} : cmpB .le (.int i) (.int j) = some (decide (i ≤ j)) := rfl
theorem cmpB_lt {i j : Int} : cmpB .lt (.int i) (.int j) = some (decide (i < j)) := rfl
theorem run_is_tube (F : Fe) (m : Str) (hg : F.gv m = some (.int 25)) (h1 : Fn F "is_pair" PPair) : PTube (runDef F ⟨1, 2, [0], isTubeC m⟩) := by
  obtain ⟨s1, e1, p1⟩ := h1
  intro d hd
  rw [runDef_eq (by rfl)]
  cases d with
  | tup xs =>
    obtain ⟨hl, hm⟩ := sane_tup hd
    have ec := endL_map (tg := [1]) (tup := false) (c := evE F (.k (.bl true))) (e := evE F (.call "is_pair" (.cons (.v 1) .nil))) (ds := xs) (bk := [(.val (.tup xs), none)]) (g1 := [some (.val (.tup xs)), none]) (g2 := [some (.val (.tup xs)), none]) (fun d => .bl (pairD d)) (by simp) (fun d hd => by
      rw [turnC_eq]
      simp [e1, p1 d (hm d hd)]) (by omega)
    have pa := pAll_map pairD xs
    by_cases a1 : 2 ≤ xs.length
    · by_cases a2 : xs.length ≤ 25
      · have b1 : decide ((2 : Int) ≤ (xs.length : Int)) = true := decide_eq_true (by omega)
        have b2 : decide ((xs.length : Int) ≤ 25) = true := decide_eq_true (by omega)
        simp [isTubeC, hg, cmpB_le, b1, b2, ec, pa, tubeD, a1, a2]
      · have b1 : decide ((2 : Int) ≤ (xs.length : Int)) = true := decide_eq_true (by omega)
        have b2 : decide ((xs.length : Int) ≤ 25) = false := decide_eq_false (by omega)
        simp [isTubeC, hg, cmpB_le, b1, b2, tubeD, a1, a2]
    · have b1 : decide ((2 : Int) ≤ (xs.length : Int)) = false := decide_eq_false (by omega)
      simp [isTubeC, hg, cmpB_le, b1, tubeD, a1]
  | _ => first | (unfold sane at hd; cases hd; done) | simp [isTubeC, tubeD]
def gBody (fn m : Str) : CB := (.cons (.set 4 (.call fn (.cons (.v 3) .nil))) (.cons (.iff (.or (.prim .isN (.cons (.v 4) .nil)) (.prim .ge (.cons (.v 2) (.cons (.g m) .nil)))) (.cons (.raise "NoText" (some "part") (.v 2)) .nil) .nil) (.cons (.set 1 (.prim .add (.cons (.v 1) (.cons (.tup (.cons (.v 4) .nil)) .nil)))) .nil)))
theorem gBody_ap {F : Fe} {pin : List Nat} {fn m : Str} {g : Sg} : evB F pin (gBody fn m) g = evB F pin (.cons (.set 4 (.call fn (.cons (.v 3) .nil))) (.cons (.iff (.or (.prim .isN (.cons (.v 4) .nil)) (.prim .ge (.cons (.v 2) (.cons (.g m) .nil)))) (.cons (.raise "NoText" (some "part") (.v 2)) .nil) .nil) (.cons (.set 1 (.prim .add (.cons (.v 1) (.cons (.tup (.cons (.v 4) .nil)) .nil)))) .nil))) g := rfl
def rdG (f : List Nat → Option D) (k : Nat) (acc : List D) : List (List Nat) → Nat ⊕ List D
  | [] => .inr acc
  | p :: ps => match f p with
    | some d => if 25 ≤ k then .inl k else rdG f (k + 1) (acc ++ [d]) ps
    | none => .inl k
theorem g_loop (F : Fe) (fn m : Str) {f : List Nat → Option D} (hf : ∀ l d, f l = some d → isNon d = false) (h1 : Fn F fn (PPart f)) (hm : F.gv m = some (.int 25)) (t : W) (ht : t ≠ .out) : ∀ (ps : List (List Nat)) (k : Nat) (acc : List D) (x2 x3 x4 : Option W), x2 ≠ some .out → x3 ≠ some .out → x4 ≠ some .out → acc.length = k → k ≤ 25 → (∀ p ∈ ps, okL p ∧ p.length ≤ 640) →
    (match rdG f k acc ps with
    | .inr qs => ∃ y2 y3 y4, forL (turnF [0] [2, 3] true (evB F [0] (gBody fn m))) (enumD k (ps.map fun p => .str (tx p))) [some t, some (.val (.tup acc)), x2, x3, x4] = some (.nx [some t, some (.val (.tup qs)), y2, y3, y4])
    | .inl j => ∃ g, forL (turnF [0] [2, 3] true (evB F [0] (gBody fn m))) (enumD k (ps.map fun p => .str (tx p))) [some t, some (.val (.tup acc)), x2, x3, x4] = some (.exc ⟨"NoText", some ("part", .int (j : Nat))⟩ (some t :: g)))
  | [], k, acc, x2, x3, x4, _, _, _, _, _, _ => ⟨x2, x3, x4, rfl⟩
  | p :: ps, k, acc, x2, x3, x4, n2, n3, n4, hk, hk2, hp => by
    obtain ⟨s1, e1, p1⟩ := h1
    have q := p1 p (hp p List.mem_cons_self).1 (hp p List.mem_cons_self).2
    have e : enumD k ((p :: ps).map fun p => D.str (tx p)) = .tup [.int k, .str (tx p)] :: enumD (k + 1) (ps.map fun p => .str (tx p)) := rfl
    rw [e]
    unfold rdG
    cases hn : f p with
    | none =>
      rw [hn] at q
      dsimp only
      refine ⟨[some (.val (.tup acc)), some (.val (.int k)), some (.val (.str (tx p))), some (.val .non)], ?_⟩
      rw [forL_cons]
      simp [n2, n3, n4, gBody_ap, e1, q, optD]
    | some v =>
      have hv := hf p v hn
      rw [hn] at q
      simp only [optD] at q
      dsimp only
      by_cases h25 : 25 ≤ k
      · rw [if_pos h25]
        refine ⟨[some (.val (.tup acc)), some (.val (.int k)), some (.val (.str (tx p))), some (.val v)], ?_⟩
        rw [forL_cons]
        have hh : (25 : Int) ≤ k := by omega
        simp [n2, n3, n4, gBody_ap, e1, q, hm, hh, hv]
      · rw [if_neg h25]
        have hh : ¬ (25 : Int) ≤ k := by omega
        have ih := g_loop F fn m hf ⟨s1, e1, p1⟩ hm t ht ps (k + 1) (acc ++ [v]) (some (.val (.int k))) (some (.val (.str (tx p)))) (some (.val v)) (by simp) (by simp) (by simp) (by simp; omega) (by omega) fun x hx => hp x (List.mem_cons_of_mem _ hx)
        have ha := pAdd_t (xs := acc) (ys := [v]) (by simp; exact big_line (by omega))
        have step : turnF [0] [2, 3] true (evB F [0] (gBody fn m)) (.tup [.int k, .str (tx p)]) [some t, some (.val (.tup acc)), x2, x3, x4] = some (.nx [some t, some (.val (.tup (acc ++ [v]))), some (.val (.int k)), some (.val (.str (tx p))), some (.val v)]) := by
          simp [n2, n3, n4, gBody_ap, e1, q, hm, hh, ha, hv]
        rw [forL_cons, step, seqS_nx]
        exact ih
end Ev

set_option Elab.async false
set_option linter.all false
set_option maxRecDepth 100000
set_option maxHeartbeats 4000000
set_option exponentiation.threshold 10000
namespace Ev
open PySem PySem.Spec PyProof.Rows L2
abbrev Pl := Rat × Rat
def pl (p : Pl) : D := .tup [nr p.1, nr p.2]
def placeL (p : Pl) : List Nat := if p.1 = p.2 then ratL p.1 else ratL p.1 ++ [46, 46] ++ ratL p.2
def fzP (k : Nat) (p : Pl) : Prop := fz k p.1 ∧ fz k p.2 ∧ p.1 ≤ p.2
theorem placeL_ok (p : Pl) : okL (placeL p) := by
  unfold placeL
  split
  · exact ratL_ok _
  · exact okL_app.mpr ⟨okL_app.mpr ⟨ratL_ok _, okL_lit rfl⟩, ratL_ok _⟩
theorem placeL_len {p : Pl} (h : fzP 10 p) : (placeL p).length ≤ 46 := by
  have h1 := fz_len h.1
  have h2 := fz_len h.2.1
  unfold placeL
  split
  · omega
  · simp only [List.length_append, List.length_cons, List.length_nil]
    omega
theorem placeL_free {p : Pl} {s : Nat} (h : s < 45 ∨ 57 < s) : s ∉ placeL p := by
  unfold placeL
  split
  · exact ratL_free (by omega)
  · intro hm
    rcases List.mem_append.mp hm with hm | hm
    · rcases List.mem_append.mp hm with hm | hm
      · exact ratL_free (by omega) hm
      · simp at hm
        omega
    · exact ratL_free (by omega) hm
theorem placeIn_placeL {p : Pl} (h : p.1 ≤ p.2) : placeIn (placeL p) = some (pl p) := by
  unfold placeIn placeL
  by_cases e : p.1 = p.2
  · rw [if_pos e, TL.par_none1 (ratL_free (by omega))]
    dsimp only
    rw [numIn_rat]
    show some (D.tup [nr p.1, nr p.1]) = some (D.tup [nr p.1, nr p.2])
    rw [← e]
  · rw [if_neg e]
    have := TL.par_part1 (s := 46) (S := [46]) (p := ratL p.1) (rest := ratL p.2) (acc := []) (ratL_free (by omega))
    rw [List.append_assoc]
    rw [List.nil_append] at this
    rw [this]
    dsimp only
    rw [numIn_rat, numIn_rat]
    dsimp only
    rw [if_pos ((Rat.lt_iff _ _).mp (Rat.lt_of_le_of_ne h e))]
    rfl
def fbG (f : List Nat → Option D) : List (List Nat) → Option Nat
  | [] => none
  | p :: ps => if (f p).isSome = true then (fbG f ps).map (· + 1) else some 0
section
variable {f : List Nat → Option D}
theorem rdG_first : ∀ (ps : List (List Nat)) (k : Nat) (acc : List D) (j : Nat), fbG f ps = some j → k + j ≤ 25 → rdG f k acc ps = .inl (k + j)
  | [], _, _, _, h, _ => by cases h
  | p :: ps, k, acc, j, h, hk => by
    unfold fbG at h
    unfold rdG
    cases hn : f p with
    | none =>
      rw [hn] at h
      simp at h
      subst h
      rfl
    | some q =>
      rw [hn] at h
      simp at h
      obtain ⟨i, hi, rfl⟩ := h
      dsimp only
      rw [if_neg (by omega), rdG_first ps (k + 1) (acc ++ [q]) i hi (by omega)]
      congr 1
      omega
theorem fbG_app : ∀ (as bs : List (List Nat)), (∀ p ∈ as, (f p).isSome = true) → fbG f (as ++ bs) = (fbG f bs).map (as.length + ·)
  | [], bs, _ => by simp
  | a :: as, bs, h => by
    show (if (f a).isSome = true then (fbG f (as ++ bs)).map (· + 1) else some 0) = _
    rw [if_pos (h a List.mem_cons_self), fbG_app as bs fun p hp => h p (List.mem_cons_of_mem _ hp), Option.map_map]
    congr 1
    funext x
    simp
    omega
theorem fbG_more : ∀ (as bs : List (List Nat)) (j : Nat), fbG f as = some j → fbG f (as ++ bs) = some j
  | [], _, _, h => by cases h
  | a :: as, bs, j, h => by
    unfold fbG at h
    show (if (f a).isSome = true then (fbG f (as ++ bs)).map (· + 1) else some 0) = _
    by_cases ha : (f a).isSome = true
    · rw [if_pos ha] at h ⊢
      obtain ⟨i, hi, rfl⟩ := Option.map_eq_some_iff.mp h
      rw [fbG_more as bs i hi]
      rfl
    · rw [if_neg ha] at h ⊢
      exact h
theorem rdG_ok : ∀ (ps : List (List Nat)) (qs : List D) (k : Nat) (acc : List D), ps.map f = qs.map some → k + ps.length ≤ 25 → rdG f k acc ps = .inr (acc ++ qs)
  | [], qs, k, acc, h, _ => by
    have : qs = [] := by
      cases qs with
      | nil => rfl
      | cons q qs => cases h
    subst this
    rw [List.append_nil]
    rfl
  | p :: ps, qs, k, acc, h, hk => by
    cases qs with
    | nil => cases h
    | cons q qs =>
      rw [List.map_cons, List.map_cons] at h
      injection h with h1 h2
      simp only [List.length_cons] at hk
      unfold rdG
      rw [h1]
      dsimp only
      rw [if_neg (by omega), rdG_ok ps qs (k + 1) (acc ++ [q]) h2 (by omega), List.append_assoc]
      rfl
end
def refN (t : D) (k : Nat) : Option FR := some (.exc ⟨"NoText", some ("part", .int (k : Nat))⟩ [.val t])
def rtOut (t : D) : Nat ⊕ List D → Option FR
  | .inr ds => if ds.length < 2 then refN t 1 else some (.ret (.val (.tup ds)) [.val t])
  | .inl k => refN t k
def PReadT (s : List W → Option FR) : Prop := (∀ l, okL l → l.length ≤ 100000 → (∀ p ∈ TL.spl [44, 32] 0 [] l, p.length ≤ 640) → s [.val (.str (tx l))] = rtOut (.str (tx l)) (rdG placeIn 0 [] (TL.spl [44, 32] 0 [] l)))
  ∧ ∀ d, plain d = true → (∀ x, d ≠ .str x) → s [.val d] = some (.exc ⟨"NoText", some ("part", .non)⟩ [.val d])
theorem sl_cs : Str.ofString ", " = tx [44, 32] := by decide
theorem placeIn_non : ∀ l d, placeIn l = some d → isNon d = false := fun l d h => by
  unfold placeIn at h
  split at h
  · obtain ⟨q, _, rfl⟩ := Option.map_eq_some_iff.mp h
    rfl
  · split at h
    · split at h
      · cases h; rfl
      · cases h
    · cases h
theorem pSplit_tx {l s : List Nat} (hs : s ≠ []) (h256 : s.all (· < 256) = true) (hl : l.length ≤ 100000) : pSplit (.str (tx l)) (.str (tx s)) = some (.lst ((TL.spl s 0 [] l).map fun p => .str (tx p))) := by
  show (if _ then _ else none) = _
  rw [if_pos ⟨by rw [tx_len]; exact fun z => hs (List.length_eq_zero_iff.mp z), by rw [tx_len]; exact big_line (by omega)⟩]
  have := SX.split_S (a := l) (b := s) hs h256
  rw [show Txt.split (tx l) (tx s) = _ from this, List.map_map]
  rfl
theorem run_read_tube (F : Fe) (h0 : Fn F "check_text" PCheck) (h1 : Fn F "place_in" (PPart placeIn)) (hm : F.gv "MOST_PLACES_cordtexts" = some (.int 25)) : PReadT (runDef F ⟨1, 5, [0], c_read_tube⟩) := by
  obtain ⟨s0, e0, p0⟩ := h0
  refine ⟨fun l hk hl hp => ?_, fun d hd hx => ?_⟩
  · rw [runDef_eq (by rfl)]
    have sp := pSplit_tx (l := l) (s := [44, 32]) (by simp) rfl hl
    have lp := g_loop F "place_in" "MOST_PLACES_cordtexts" placeIn_non h1 hm (.val (.str (tx l))) (by simp) (TL.spl [44, 32] 0 [] l) 0 [] none none none (by simp) (by simp) (by simp) rfl (by omega) fun p q => ⟨fun c hc => by
      rcases (spl_mem p q).2 c hc with z | z
      · cases z
      · exact hk c z, hp p q⟩
    cases hr : rdG placeIn 0 [] (TL.spl [44, 32] 0 [] l) with
    | inr qs =>
      rw [hr] at lp
      obtain ⟨y2, y3, y4, lp⟩ := lp
      unfold gBody at lp
      by_cases h2 : qs.length < 2
      · have h2' : (qs.length : Int) < 2 := by omega
        simp [c_read_tube, e0, p0.1, sl_cs, sp, evS_for, lp, rtOut, h2, h2', refN]
      · have h2' : ¬ (qs.length : Int) < 2 := by omega
        simp [c_read_tube, e0, p0.1, sl_cs, sp, evS_for, lp, rtOut, h2, h2']
    | inl j =>
      rw [hr] at lp
      obtain ⟨g, lp⟩ := lp
      unfold gBody at lp
      simp [c_read_tube, e0, p0.1, sl_cs, sp, evS_for, lp, rtOut, refN]
  · rw [runDef_eq (by rfl)]
    have := p0.2 d hd hx
    simp [c_read_tube, e0, this]
def PShowPl (s : List W → Option FR) : Prop := ∀ p : Pl, fzP 10 p → s [.val (pl p)] = some (.ret (.val (.str (tx (placeL p)))) [.val (pl p)])
theorem run_show_place (F : Fe) (h : Fn F "show_number" PShowN) : PShowPl (runDef F ⟨1, 3, [0], c_show_place⟩) := by
  obtain ⟨s, e, q⟩ := h
  intro p hp
  rw [runDef_eq (by rfl)]
  have q1 := q p.1 (fz_sz hp.1)
  have q2 := q p.2 (fz_sz hp.2.1)
  have ee := eqD_nr p.1 p.2
  have l1 := fz_len hp.1
  have l2 := fz_len hp.2.1
  have a1 := pAdd_tx (a := ratL p.1) (b := [46, 46]) (by simp; omega)
  have a2 := pAdd_tx (a := ratL p.1 ++ [46, 46]) (b := ratL p.2) (by simp; omega)
  unfold placeL
  by_cases h12 : p.1 = p.2
  · rw [if_pos h12]
    simp only [decide_eq_true h12] at ee
    simp [c_show_place, pl, ee, e, q1]
  · rw [if_neg h12]
    simp only [decide_eq_false h12] at ee
    simp [-List.append_assoc, c_show_place, pl, ee, e, q1, q2, sl_dd, a1, a2]
theorem run_place_text (F : Fe) (h : Fn F "_law_number_text" PShowN) : PShowPl (runDef F ⟨1, 1, [0], c__law_place_text⟩) := by
  obtain ⟨s, e, q⟩ := h
  intro p hp
  rw [runDef_eq (by rfl)]
  have q1 := q p.1 (fz_sz hp.1)
  have q2 := q p.2 (fz_sz hp.2.1)
  have ee := eqD_nr p.1 p.2
  have l1 := fz_len hp.1
  have l2 := fz_len hp.2.1
  have a1 := pAdd_tx (a := ratL p.1) (b := [46, 46]) (by simp; omega)
  have a2 := pAdd_tx (a := ratL p.1 ++ [46, 46]) (b := ratL p.2) (by simp; omega)
  unfold placeL
  by_cases h12 : p.1 = p.2
  · rw [if_pos h12]
    simp only [decide_eq_true h12] at ee
    simp [c__law_place_text, pl, ee, e, q1]
  · rw [if_neg h12]
    simp only [decide_eq_false h12] at ee
    simp [-List.append_assoc, c__law_place_text, pl, ee, e, q1, q2, sl_dd, a1, a2]
/-- what a place's data writes -/
def shP : D → D
  | .tup [a, b] => .str (tx (placeL (ratD a, ratD b)))
  | d => d
theorem shP_pl (p : Pl) : shP (pl p) = .str (tx (placeL p)) := by
  show D.str (tx (placeL (ratD (nr p.1), ratD (nr p.2)))) = _
  rw [ratD_nr, ratD_nr]
theorem map_pl {β : Type} {f : D → β} {g : Pl → β} {ps : List Pl} (h : ∀ r ∈ ps, f (pl r) = g r) : (ps.map pl).map f = ps.map g := by
  rw [List.map_map]
  exact List.map_congr_left h
def PShowT (s : List W → Option FR) : Prop := ∀ ps : List Pl, (∀ p ∈ ps, fzP 10 p) → ps.length ≤ 1000 → s [.val (.tup (ps.map pl))] = some (.ret (.val (.str (tx (TL.joinL [44, 32] (ps.map placeL))))) [.val (.tup (ps.map pl))])
theorem run_show_tube (F : Fe) (h : Fn F "show_place" PShowPl) : PShowT (runDef F ⟨1, 2, [0], c_show_tube⟩) := by
  obtain ⟨s, e, p⟩ := h
  intro ps hr hl
  rw [runDef_eq (by rfl)]
  have ec := endL_map (tg := [1]) (tup := false) (c := evE F (.k (.bl true))) (e := evE F (.call "show_place" (.cons (.v 1) .nil))) (ds := ps.map pl) (bk := [(.val (.tup (ps.map pl)), none)]) (g1 := [some (.val (.tup (ps.map pl))), none]) (g2 := [some (.val (.tup (ps.map pl))), none]) shP (by simp) (fun d hd => by
    obtain ⟨r, hm, rfl⟩ := List.mem_map.mp hd
    rw [turnC_eq]
    simp [e, p r (hr r hm), shP_pl]) (by rw [List.length_map]; omega)
  have e2 : (ps.map pl).map shP = (ps.map placeL).map fun p => .str (tx p) := by
    rw [map_pl fun r _ => shP_pl r, List.map_map]
    rfl
  rw [e2] at ec
  have ej := pJoin_l (s := [44, 32]) (ps := ps.map placeL) (k := 46) (fun p hp => by
    obtain ⟨r, hm, rfl⟩ := List.mem_map.mp hp
    exact placeL_len (hr r hm)) (by rw [List.length_map]; simp; omega)
  simp [-List.map_map, c_show_tube, sl_cs, ec, ej]
theorem pls_free {ps : List Pl} : ∀ p ∈ ps.map placeL, 44 ∉ p := fun p hp => by
  obtain ⟨r, _, rfl⟩ := List.mem_map.mp hp
  exact placeL_free (by omega)
theorem pls_spl {ps : List Pl} (h : ps ≠ []) : TL.spl [44, 32] 0 [] (TL.joinL [44, 32] (ps.map placeL)) = ps.map placeL := by
  rw [spl_glue2 (by decide) (by simpa using h), flat_free2 pls_free]
theorem map_placeIn {ps : List Pl} (h : ∀ p ∈ ps, fzP 10 p) : (ps.map placeL).map placeIn = (ps.map pl).map some := by
  rw [List.map_map, List.map_map]
  exact List.map_congr_left fun r hr => placeIn_placeL (h r hr).2.2
theorem readT_shown {s : List W → Option FR} (hp : PReadT s) {ps : List Pl} (hr : ∀ p ∈ ps, fzP 10 p) (h2 : 2 ≤ ps.length) (hl : ps.length ≤ 25) : s [.val (.str (tx (TL.joinL [44, 32] (ps.map placeL))))] = some (.ret (.val (.tup (ps.map pl))) [.val (.str (tx (TL.joinL [44, 32] (ps.map placeL))))]) := by
  have h0 : ps ≠ [] := by
    intro e
    rw [e] at h2
    simp at h2
  have hm : ∀ p ∈ ps.map placeL, okL p ∧ p.length ≤ 46 := fun p hp => by
    obtain ⟨r, hm, rfl⟩ := List.mem_map.mp hp
    exact ⟨placeL_ok r, placeL_len (hr r hm)⟩
  have := hp.1 (TL.joinL [44, 32] (ps.map placeL)) (joinL_ok (okL_lit rfl) fun p q => (hm p q).1) (by
    have := joinL_len (s := [44, 32]) (k := 46) fun p q => (hm p q).2
    rw [List.length_map] at this
    simp at this
    omega) (fun p q => by rw [pls_spl h0] at q; have := (hm p q).2; omega)
  rw [this, pls_spl h0, rdG_ok _ _ 0 [] (map_placeIn hr) (by rw [List.length_map]; omega), List.nil_append]
  show (if (ps.map pl).length < 2 then _ else _) = _
  rw [if_neg (by rw [List.length_map]; omega)]
/-- what read_tube refuses -/
def RT (d x : D) : Prop := (∃ l, d = .str (tx l) ∧ okL l ∧ l.length ≤ 100000 ∧ (∀ p ∈ TL.spl [44, 32] 0 [] l, p.length ≤ 640) ∧ ∃ k : Nat, x = .int k ∧ rtOut (.str (tx l)) (rdG placeIn 0 [] (TL.spl [44, 32] 0 [] l)) = refN (.str (tx l)) k) ∨ (plain d = true ∧ (∀ y, d ≠ .str y) ∧ x = .non)
theorem refT_of {s : List W → Option FR} (hp : PReadT s) {d x : D} (h : RT d x) : Ref s d x ∧ eqD x x = some true ∧ isTy "bool" x = some false := by
  rcases h with ⟨l, rfl, h1, h2, h3, k, rfl, h4⟩ | ⟨h1, h2, rfl⟩
  · refine ⟨⟨_, (hp.1 l h1 h2 h3).trans h4⟩, by simp, rfl⟩
  · exact ⟨⟨_, hp.2 d h1 h2⟩, rfl, rfl⟩
def PRefTube (s : List W → Option FR) : Prop := ∀ d x, RT d x → s [.val (.fn "read_tube"), .val d, .val x] = some (.ret (.val (.bl true)) [.val (.fn "read_tube"), .val d, .val x])
theorem preftube {F : Fe} {s : List W → Option FR} (h : PRefused F s) (hr : Fn F "read_tube" PReadT) : PRefTube s := fun d x q => by
  obtain ⟨t, e, p⟩ := hr
  obtain ⟨h1, h2, h3⟩ := refT_of p q
  exact h _ d x ⟨t, e, h1⟩ h2 h3
theorem pls_good {ps : List Pl} (h : ∀ p ∈ ps, fzP 10 p) : ∀ p ∈ ps.map placeL, (placeIn p).isSome = true := fun p hp => by
  obtain ⟨r, hm, rfl⟩ := List.mem_map.mp hp
  rw [placeIn_placeL (h r hm).2.2]
  rfl
theorem rt_parts {ps : List (List Nat)} {j : Nat} (h0 : ps ≠ []) (hm : ∀ p ∈ ps, okL p ∧ p.length ≤ 60) (hl : ps.length ≤ 1000) (hb : fbG placeIn (ps.flatMap (TL.spl [44, 32] 0 [])) = some j) (hj : j ≤ 25) : RT (.str (tx (TL.joinL [44, 32] ps))) (.int j) := by
  have e := spl_glue2 (c := 44) (d := 32) (by decide) h0
  refine .inl ⟨_, rfl, joinL_ok (okL_lit rfl) fun p q => (hm p q).1, ?_, fun p q => ?_, j, rfl, ?_⟩
  · have := joinL_len (s := [44, 32]) (k := 60) fun p q => (hm p q).2
    simp at this
    omega
  · rw [e] at q
    obtain ⟨a, ha, hq⟩ := List.mem_flatMap.mp q
    have := (spl_mem p hq).1
    have := (hm a ha).2
    simp at *
    omega
  · rw [e, rdG_first _ 0 [] j hb (by omega), Nat.zero_add]
    rfl
theorem pls_ok {ps : List Pl} (hr : ∀ p ∈ ps, fzP 10 p) : ∀ p ∈ ps.map placeL, okL p ∧ p.length ≤ 60 := fun p hp => by
  obtain ⟨r, hm, rfl⟩ := List.mem_map.mp hp
  have := placeL_len (hr r hm)
  exact ⟨placeL_ok r, by omega⟩
theorem flat_pls {ps : List Pl} : (ps.map placeL).flatMap (TL.spl [44, 32] 0 []) = ps.map placeL := flat_free2 pls_free
theorem rt_odd {ps : List Pl} (hr : ∀ p ∈ ps, fzP 10 p) (hl : ps.length ≤ 24) {k : Nat} (hk : k < ps.length) {o : List Nat} (ho : okL o) (hol : o.length ≤ 60) (hb : fbG placeIn (TL.spl [44, 32] 0 [] o) = some 0) :
    RT (.str (tx (TL.joinL [44, 32] ((ps.map placeL).take k ++ [o] ++ (ps.map placeL).drop (k + 1))))) (.int ((k : Nat) : Int)) := by
  have hm := pls_ok hr
  refine rt_parts (by simp) (fun p hp => ?_) (by simp; omega) ?_ (by omega)
  · rcases List.mem_append.mp hp with hp | hp
    · rcases List.mem_append.mp hp with hp | hp
      · exact hm p (List.mem_of_mem_take hp)
      · rw [List.mem_singleton.mp hp]
        exact ⟨ho, hol⟩
    · exact hm p (List.mem_of_mem_drop hp)
  · rw [List.flatMap_append, List.flatMap_append, ← List.map_take, ← List.map_drop, flat_pls, flat_pls, List.append_assoc, fbG_app _ _ (pls_good fun p hp => hr p (List.mem_of_mem_take hp)), List.flatMap_singleton]
    rw [fbG_more _ _ 0 hb]
    simp
    omega
end Ev

set_option Elab.async false
set_option linter.all false
set_option maxRecDepth 100000
set_option maxHeartbeats 4000000
set_option exponentiation.threshold 10000
namespace Ev
open PySem PySem.Spec PyProof.Rows L2
theorem add_low (a b : Rat) : Rat.divInt (a.num * b.den + b.num * a.den) ((a.den : Int) * b.den) = a + b := by
  rw [Rat.add_def', ← Int.natCast_mul, Rat.divInt_ofNat]
theorem sub_low (a b : Rat) : Rat.divInt (a.num * b.den - b.num * a.den) ((a.den : Int) * b.den) = a - b := by
  rw [Rat.sub_def', ← Int.natCast_mul, Rat.divInt_ofNat]
theorem mul_low (a b : Rat) : Rat.divInt (a.num * b.num) ((a.den : Int) * b.den) = a * b := by
  rw [Rat.mul_def', ← Int.natCast_mul, Rat.divInt_ofNat]
theorem den_ne (a : Rat) : (a.den : Int) ≠ 0 := by have := a.den_pos; omega
theorem den2_ne (a b : Rat) : (a.den : Int) * b.den ≠ 0 := Int.mul_ne_zero (den_ne a) (den_ne b)
theorem mul_lt2 {a b k m : Nat} (ha : a < 2 ^ k) (hb : b < 2 ^ m) : a * b < 2 ^ (k + m) := by
  rw [Nat.pow_add]
  exact Nat.mul_lt_mul'' ha hb
theorem den2_lt {a b : Rat} {k : Nat} (ha : szR k a) (hb : szR k b) : ((a.den : Int) * b.den).natAbs < 2 ^ (k + k) := by
  rw [Int.natAbs_mul, Int.natAbs_natCast, Int.natAbs_natCast]
  exact mul_lt2 ha.2 hb.2
def POp (o : Rat → Rat → Rat) (s : List W → Option FR) : Prop := ∀ a b : Rat, szR 3000 a → szR 3000 b → s [.val (nr a), .val (nr b)] = some (.ret (.val (nr (o a b))) [.val (nr a), .val (nr b)])
theorem szi {a : Rat} {k : Nat} (h : szR k a) : (a.den : Int).natAbs < 2 ^ k := by rw [Int.natAbs_natCast]; exact h.2
theorem run_more (F : Fe) (h : Fn F "_law_low" PLow) : POp (· + ·) (runDef F ⟨2, 2, [0, 1], c__law_more⟩) := by
  obtain ⟨s, e, p⟩ := h
  intro a b ha hb
  rw [runDef_eq (by rfl)]
  have m1 := okMul_of (k := 3000) (m := 3000) ha.1 (szi hb) (by decide) (by decide) (by decide)
  have m2 := okMul_of (k := 3000) (m := 3000) hb.1 (szi ha) (by decide) (by decide) (by decide)
  have m3 := okMul_of (k := 3000) (m := 3000) (szi ha) (szi hb) (by decide) (by decide) (by decide)
  have q := p (a.num * b.den + b.num * a.den) ((a.den : Int) * b.den) (den2_ne a b) (Nat.lt_of_lt_of_le (den2_lt ha hb) (Nat.pow_le_pow_right (by decide) (by decide)))
  rw [add_low] at q
  conv => lhs; unfold nr
  simp [c__law_more, pMul_i m1, pMul_i m2, pMul_i m3, e, q, nr]
theorem run_less_by (F : Fe) (h : Fn F "_law_low" PLow) : POp (· - ·) (runDef F ⟨2, 2, [0, 1], c__law_less_by⟩) := by
  obtain ⟨s, e, p⟩ := h
  intro a b ha hb
  rw [runDef_eq (by rfl)]
  have m1 := okMul_of (k := 3000) (m := 3000) ha.1 (szi hb) (by decide) (by decide) (by decide)
  have m2 := okMul_of (k := 3000) (m := 3000) hb.1 (szi ha) (by decide) (by decide) (by decide)
  have m3 := okMul_of (k := 3000) (m := 3000) (szi ha) (szi hb) (by decide) (by decide) (by decide)
  have q := p (a.num * b.den - b.num * a.den) ((a.den : Int) * b.den) (den2_ne a b) (Nat.lt_of_lt_of_le (den2_lt ha hb) (Nat.pow_le_pow_right (by decide) (by decide)))
  rw [sub_low] at q
  conv => lhs; unfold nr
  simp [c__law_less_by, pMul_i m1, pMul_i m2, pMul_i m3, e, q, nr]
theorem run_by (F : Fe) (h : Fn F "_law_low" PLow) : POp (· * ·) (runDef F ⟨2, 2, [0, 1], c__law_by⟩) := by
  obtain ⟨s, e, p⟩ := h
  intro a b ha hb
  rw [runDef_eq (by rfl)]
  have m1 := okMul_of (k := 3000) (m := 3000) ha.1 hb.1 (by decide) (by decide) (by decide)
  have m3 := okMul_of (k := 3000) (m := 3000) (szi ha) (szi hb) (by decide) (by decide) (by decide)
  have q := p (a.num * b.num) ((a.den : Int) * b.den) (den2_ne a b) (Nat.lt_of_lt_of_le (den2_lt ha hb) (Nat.pow_le_pow_right (by decide) (by decide)))
  rw [mul_low] at q
  conv => lhs; unfold nr
  simp [c__law_by, pMul_i m1, pMul_i m3, e, q, nr]
theorem run_under (F : Fe) : PLess (runDef F ⟨2, 2, [0, 1], c__law_under⟩) := fun a b c d h h2 => by
  rw [runDef_eq (by rfl)]
  simp [c__law_under, pMul_i h, pMul_i h2]
/-- halves of bounded size -/
def Hf (B : Nat) (r : Rat) : Prop := ∃ k : Int, r = Rat.divInt k 2 ∧ k.natAbs ≤ B
theorem hf_add {A B : Nat} {a b : Rat} (ha : Hf A a) (hb : Hf B b) : Hf (A + B) (a + b) := by
  obtain ⟨i, rfl, hi⟩ := ha
  obtain ⟨j, rfl, hj⟩ := hb
  refine ⟨i + j, ?_, by omega⟩
  rw [Rat.divInt_add_divInt _ _ (by decide) (by decide), ← Int.add_mul, Rat.divInt_mul_right (by decide)]
theorem hf_int (i : Int) : Hf (2 * i.natAbs) (Rat.divInt i 1) := ⟨i * 2, by
  have := Rat.divInt_mul_right (n := i) (d := 1) (a := 2) (by decide)
  rw [Int.one_mul] at this
  exact this.symm, by omega⟩
theorem hf_mono {A B : Nat} {a : Rat} (h : Hf A a) (hb : A ≤ B) : Hf B a := by
  obtain ⟨i, rfl, hi⟩ := h
  exact ⟨i, rfl, by omega⟩
theorem hf_fz {a : Rat} (h : Hf 100000 a) : fz 10 a := by
  obtain ⟨i, rfl, hi⟩ := h
  exact divInt_fz (by decide) (by omega) (by decide)
theorem fz_szk {a : Rat} (h : fz 10 a) : szR 40 a := ⟨Nat.lt_of_lt_of_le h.1 (by decide), Nat.lt_of_lt_of_le h.2 (by decide)⟩
theorem fz_sz3 {a : Rat} (h : fz 10 a) : szR 3000 a := szR_mono (fz_szk h) (by decide)
theorem hf_sz3 {a : Rat} (h : Hf 100000 a) : szR 3000 a := fz_sz3 (hf_fz h)
theorem nr_int (i : Int) : nr (Rat.divInt i 1) = .tup [.int i, .int 1] := by
  have h := divInt_parts (a := i) (b := 1) (by decide)
  have g : Int.gcd i 1 = 1 := by simp
  rw [g] at h
  unfold nr
  rw [h.1, h.2]
  simp
theorem divInt_nonneg1 {a b : Int} (ha : 0 ≤ a) (hb : 0 ≤ b) : 0 ≤ Rat.divInt a b := Rat.divInt_nonneg ha hb
def PWidth (s : List W → Option FR) : Prop := ∀ n w : Int, 0 ≤ w → w ≤ 1000 → ∃ (m : Int) (r : Rat), 0 ≤ r ∧ Hf 2000 r ∧ s [.lst [.int n], .val (.int w)] = some (.ret (.val (nr r)) [.lst [.int m], .val (.int w)])
theorem four {n : Int} : ∃ b : Int, atI [D.int 1, .int 1, .int 1, .int 2] (n % 4) = some (.int b) ∧ (b = 1 ∨ b = 2) := by
  have h0 := Int.emod_nonneg n (show (4 : Int) ≠ 0 by decide)
  have h1 := Int.emod_lt_of_pos n (show (0 : Int) < 4 by decide)
  have : n % 4 = 0 ∨ n % 4 = 1 ∨ n % 4 = 2 ∨ n % 4 = 3 := by omega
  rcases this with h | h | h | h <;> rw [h]
  · exact ⟨1, rfl, .inl rfl⟩
  · exact ⟨1, rfl, .inl rfl⟩
  · exact ⟨1, rfl, .inl rfl⟩
  · exact ⟨2, rfl, .inr rfl⟩
theorem run_width (F : Fe) (h1 : Fn F "_law_take" PTake) (h2 : Fn F "_law_low" PLow) : PWidth (runDef F ⟨2, 3, [0, 1], c__law_width⟩) := fun n w w0 w1 => by
  obtain ⟨s1, e1, p1⟩ := h1
  obtain ⟨s2, e2, p2⟩ := h2
  rw [runDef_eq (by rfl)]
  have t1 := p1 n 4 (by decide) (by decide)
  by_cases hz : n % 4 = 0
  · refine ⟨n / 4, 0, by decide, ⟨0, rfl, by decide⟩, ?_⟩
    have : nr 0 = .tup [.int 0, .int 1] := rfl
    simp [c__law_width, e1, t1, hz, this]
  · obtain ⟨b, hb, hb2⟩ := four (n := n)
    have t2 := p1 (n / 4) (w + 1) (by omega) (by omega)
    have b0 := Int.emod_nonneg (n / 4) (show w + 1 ≠ 0 by omega)
    have b1 := Int.emod_lt_of_pos (n / 4) (show 0 < w + 1 by omega)
    have t3 := p2 (n / 4 % (w + 1)) b (by omega) (by omega)
    refine ⟨n / 4 / (w + 1), Rat.divInt (n / 4 % (w + 1)) b, divInt_nonneg1 b0 (by omega), ?_, ?_⟩
    · rcases hb2 with rfl | rfl
      · exact hf_mono (hf_int _) (by omega)
      · exact ⟨_, rfl, by omega⟩
    · simp [c__law_width, e1, t1, hz, t2, hb, e2, t3]
def looseLoop : CB := (.cons (.set 3 (.call "_law_more" (.cons (.v 3) (.cons (.tup (.cons (.prim .sub (.cons (.call "_law_take" (.cons (.v 0) (.cons (.k (.int 7)) .nil))) (.cons (.k (.int 3)) .nil))) (.cons (.k (.int 1)) .nil))) .nil)))) (.cons (.ex (.mut .append 4 (.cons (.tup (.cons (.v 3) (.cons (.call "_law_more" (.cons (.v 3) (.cons (.call "_law_width" (.cons (.v 0) (.cons (.v 2) .nil))) .nil))) .nil))) .nil))) .nil))
theorem looseLoop_ap {F : Fe} {pin : List Nat} {g : Sg} : evB F pin looseLoop g = evB F pin (.cons (.set 3 (.call "_law_more" (.cons (.v 3) (.cons (.tup (.cons (.prim .sub (.cons (.call "_law_take" (.cons (.v 0) (.cons (.k (.int 7)) .nil))) (.cons (.k (.int 3)) .nil))) (.cons (.k (.int 1)) .nil))) .nil)))) (.cons (.ex (.mut .append 4 (.cons (.tup (.cons (.v 3) (.cons (.call "_law_more" (.cons (.v 3) (.cons (.call "_law_width" (.cons (.v 0) (.cons (.v 2) .nil))) .nil))) .nil))) .nil))) .nil)) g := rfl
/-- places drawn: halves, low at most high -/
def HfP (p : Pl) : Prop := Hf 20000 p.1 ∧ Hf 20000 p.2 ∧ p.1 ≤ p.2
theorem hfp_fz {p : Pl} (h : HfP p) : fzP 10 p := ⟨hf_fz (hf_mono h.1 (by decide)), hf_fz (hf_mono h.2.1 (by decide)), h.2.2⟩
def PLoose (s : List W → Option FR) : Prop := ∀ n mo wi : Int, 2 ≤ mo → mo ≤ 30 → 0 ≤ wi → wi ≤ 1000 → ∃ (m : Int) (ps : List Pl), (∀ p ∈ ps, HfP p) ∧ 2 ≤ ps.length ∧ (ps.length : Int) ≤ mo ∧ s [.lst [.int n], .val (.int mo), .val (.int wi)] = some (.ret (.val (.tup (ps.map pl))) [.lst [.int m], .val (.int mo), .val (.int wi)])
theorem loose_turn (F : Fe) (h1 : Fn F "_law_take" PTake) (h2 : Fn F "_law_more" (POp (· + ·))) (h3 : Fn F "_law_width" PWidth) {mo wi : Int} (w0 : 0 ≤ wi) (w1 : wi ≤ 1000) : ∀ (j : Nat) (lo : Int) (n : Int) (a : Rat) (ps : List Pl) (B : Nat) (x5 : Option W), x5 ≠ some .out → Hf B a → B + 6 * j ≤ 10000 → (∀ p ∈ ps, HfP p) → ps.length + j ≤ 1000 →
    ∃ (m : Int) (b : Rat) (qs : List Pl) (y5 : Option W), (∀ p ∈ qs, HfP p) ∧ qs.length = ps.length + j ∧ forL (turnF [0, 1, 2] [5] false (evB F [0, 1, 2] looseLoop)) (rangeD lo j) [some (.lst [.int n]), some (.val (.int mo)), some (.val (.int wi)), some (.val (nr a)), some (.lst (ps.map pl)), x5] = some (.nx [some (.lst [.int m]), some (.val (.int mo)), some (.val (.int wi)), some (.val (nr b)), some (.lst (qs.map pl)), y5])
  | 0, lo, n, a, ps, B, x5, _, _, _, hp, _ => ⟨n, a, ps, x5, hp, rfl, rfl⟩
  | j + 1, lo, n, a, ps, B, x5, n5, ha, hB, hp, hl => by
    obtain ⟨s1, e1, p1⟩ := h1
    obtain ⟨s2, e2, p2⟩ := h2
    obtain ⟨s3, e3, p3⟩ := h3
    have t1 := p1 n 7 (by decide) (by decide)
    have b0 := Int.emod_nonneg n (show (7 : Int) ≠ 0 by decide)
    have b1 := Int.emod_lt_of_pos n (show (0 : Int) < 7 by decide)
    have hi : Hf 6 (Rat.divInt (n % 7 - 3) 1) := hf_mono (hf_int _) (by omega)
    have hs := hf_add ha hi
    have q1 := p2 a (Rat.divInt (n % 7 - 3) 1) (hf_sz3 (hf_mono ha (by omega))) (hf_sz3 (hf_mono hi (by decide)))
    rw [nr_int] at q1
    dsimp only at q1
    obtain ⟨m, r, r0, hr, q2⟩ := p3 (n / 7) wi w0 w1
    have q3 := p2 (a + Rat.divInt (n % 7 - 3) 1) r (hf_sz3 (hf_mono hs (by omega))) (hf_sz3 (hf_mono hr (by decide)))
    dsimp only at q3
    have hs2 := hf_add hs hr
    have hpl : HfP (a + Rat.divInt (n % 7 - 3) 1, a + Rat.divInt (n % 7 - 3) 1 + r) := ⟨hf_mono hs (by omega), hf_mono hs2 (by omega), by
      show a + Rat.divInt (n % 7 - 3) 1 ≤ a + Rat.divInt (n % 7 - 3) 1 + r
      have := (Rat.add_le_add_left (c := a + Rat.divInt (n % 7 - 3) 1)).mpr r0
      rw [Rat.add_zero] at this
      exact this⟩
    generalize hc : a + Rat.divInt (n % 7 - 3) 1 = c at *
    have ap := mApp (xs := ps.map pl) (d := .tup [nr c, nr (c + r)]) (by rw [List.length_map]; exact big_line (by omega))
    have mp : (ps ++ [(c, c + r)]).map pl = ps.map pl ++ [.tup [nr c, nr (c + r)]] := by rw [List.map_append]; rfl
    obtain ⟨m', b', qs, y5, h5, h6, h7⟩ := loose_turn F ⟨s1, e1, p1⟩ ⟨s2, e2, p2⟩ ⟨s3, e3, p3⟩ (mo := mo) w0 w1 j (lo + 1) m c (ps ++ [(c, c + r)]) (B + 6) (some (.val (.int lo))) (by simp) hs (by omega) (fun p hpp => by
      rcases List.mem_append.mp hpp with hpp | hpp
      · exact hp p hpp
      · rw [List.mem_singleton.mp hpp]; exact hpl) (by simp; omega)
    refine ⟨m', b', qs, y5, h5, by rw [h6]; simp; omega, ?_⟩
    show forL _ (.int lo :: rangeD (lo + 1) j) _ = _
    have step : turnF [0, 1, 2] [5] false (evB F [0, 1, 2] looseLoop) (.int lo) [some (.lst [.int n]), some (.val (.int mo)), some (.val (.int wi)), some (.val (nr a)), some (.lst (ps.map pl)), x5] = some (.nx [some (.lst [.int m]), some (.val (.int mo)), some (.val (.int wi)), some (.val (nr c)), some (.lst ((ps ++ [(c, c + r)]).map pl)), some (.val (.int lo))]) := by
      rw [mp]
      simp [-List.map_map, n5, looseLoop_ap, e1, t1, e2, q1, e3, q2, q3, ap]
    rw [forL_cons, step, seqS_nx]
    exact h7
theorem rangeOf1' {j : Int} (h : 0 ≤ j ∧ j ≤ 1000000) : rangeOf [.int j] = some (rangeD 0 j.toNat) := by
  have h2 : j < 2 ^ 62 ∧ -(2 ^ 62) ≤ j := by omega
  exact if_pos h2
theorem run_loose (F : Fe) (h1 : Fn F "_law_take" PTake) (h2 : Fn F "_law_more" (POp (· + ·))) (h3 : Fn F "_law_width" PWidth) : PLoose (runDef F ⟨3, 6, [0, 1, 2], c__law_loose_tube⟩) := fun n mo wi m0 m1 w0 w1 => by
  obtain ⟨s1, e1, p1⟩ := id h1
  have t1 := p1 n (mo - 1) (by omega) (by omega)
  have b0 := Int.emod_nonneg n (show mo - 1 ≠ 0 by omega)
  have b1 := Int.emod_lt_of_pos n (show 0 < mo - 1 by omega)
  obtain ⟨k, hk⟩ : ∃ k : Nat, 2 + n % (mo - 1) = (k : Int) := ⟨(2 + n % (mo - 1)).toNat, by omega⟩
  have rg : rangeOf [.int (k : Int)] = some (rangeD 0 k) := by rw [rangeOf1' (by omega), Int.toNat_natCast]
  obtain ⟨m, b, qs, y5, h5, h6, h7⟩ := loose_turn F h1 h2 h3 (mo := mo) w0 w1 k 0 (n / (mo - 1)) 0 [] 0 none (by simp) ⟨0, rfl, by decide⟩ (by omega) (fun _ h => nomatch h) (by simp; omega)
  simp only [List.length_nil, Nat.zero_add] at h6
  refine ⟨m, qs, h5, by omega, by omega, ?_⟩
  rw [runDef_eq (by rfl)]
  unfold looseLoop at h7
  have n0 : nr 0 = .tup [.int 0, .int 1] := rfl
  rw [n0, List.map_nil] at h7
  simp [-List.map_map, c__law_loose_tube, evS_for, e1, t1, hk, rg, h7]
def Tied (ps : List Pl) : Prop := ∃ (a b : Rat) (mid : List Pl), ps = (a, a) :: (mid ++ [(b, b)])
def PTied (s : List W → Option FR) : Prop := ∀ n mo wi : Int, 2 ≤ mo → mo ≤ 30 → 0 ≤ wi → wi ≤ 1000 → ∃ (m : Int) (ps : List Pl), (∀ p ∈ ps, HfP p) ∧ Tied ps ∧ 2 ≤ ps.length ∧ (ps.length : Int) ≤ mo ∧ s [.lst [.int n], .val (.int mo), .val (.int wi)] = some (.ret (.val (.tup (ps.map pl))) [.lst [.int m], .val (.int mo), .val (.int wi)])
theorem sIx_neg {n d : Nat} {v : Int} (h : v < 0) : HT.sIx n d (some v) = (v + (n : Int)).toNat := by
  show (if v < 0 then (v + (n : Int)).toNat else min v.toNat n) = _
  rw [if_pos h]
theorem cut_mid {α : Type} {a b : α} {mid : List α} : cutD (a :: (mid ++ [b])) (some 1) (some (-1)) = mid := by
  unfold cutD
  have h1 : HT.sIx (a :: (mid ++ [b])).length 0 (some 1) = 1 := by
    have := HT.sIx_nat (a :: (mid ++ [b])).length 0 1
    rw [show ((1 : Nat) : Int) = 1 from rfl] at this
    rw [this]
    simp
  have h2 : HT.sIx (a :: (mid ++ [b])).length (a :: (mid ++ [b])).length (some (-1)) = mid.length + 1 := by
    have e := sIx_neg (n := (a :: (mid ++ [b])).length) (d := (a :: (mid ++ [b])).length) (v := -1) (by decide)
    rw [e]
    simp
    omega
  rw [h1, h2]
  simp
theorem ends_of {α : Type} {l : List α} (h : 2 ≤ l.length) : ∃ a b mid, l = a :: (mid ++ [b]) := by
  match l, h with
  | a :: r, h =>
    simp only [List.length_cons] at h
    have hr : r ≠ [] := by
      intro e
      rw [e] at h
      simp at h
    exact ⟨a, r.getLast hr, r.dropLast, by rw [List.dropLast_concat_getLast hr]⟩
theorem atI_last {α : Type} {a b : α} {mid : List α} : atI (a :: (mid ++ [b])) (-1) = some b := by
  have := atI_neg (l := a :: (mid ++ [b])) 1 (by decide) (by simp)
  rw [show -((1 : Nat) : Int) = -1 from rfl] at this
  rw [this]
  simp
theorem atI_pick {n : Int} {x y : D} : ∃ z, atI [x, y] (n % 2) = some z ∧ (z = x ∨ z = y) := by
  have h0 := Int.emod_nonneg n (show (2 : Int) ≠ 0 by decide)
  have h1 := Int.emod_lt_of_pos n (show (0 : Int) < 2 by decide)
  have : n % 2 = 0 ∨ n % 2 = 1 := by omega
  rcases this with h | h <;> rw [h]
  · exact ⟨x, rfl, .inl rfl⟩
  · exact ⟨y, rfl, .inr rfl⟩
theorem run_tied (F : Fe) (h1 : Fn F "_law_take" PTake) (h2 : Fn F "_law_loose_tube" PLoose) : PTied (runDef F ⟨3, 6, [0, 1, 2], c__law_tube⟩) := fun n mo wi m0 m1 w0 w1 => by
  obtain ⟨s1, e1, p1⟩ := h1
  obtain ⟨s2, e2, p2⟩ := h2
  obtain ⟨m, ps, hp, hl, hl2, q⟩ := p2 n mo wi m0 m1 w0 w1
  obtain ⟨a, b, mid, rfl⟩ := ends_of hl
  have t1 := p1 m 2 (by decide) (by decide)
  have t2 := p1 (m / 2) 2 (by decide) (by decide)
  obtain ⟨za, hza, za2⟩ := atI_pick (n := m) (x := nr a.1) (y := nr a.2)
  obtain ⟨zb, hzb, zb2⟩ := atI_pick (n := m / 2) (x := nr b.1) (y := nr b.2)
  obtain ⟨ra, rfl, ha⟩ : ∃ r, za = nr r ∧ Hf 20000 r := by
    have := hp a (by simp)
    rcases za2 with rfl | rfl
    · exact ⟨_, rfl, this.1⟩
    · exact ⟨_, rfl, this.2.1⟩
  obtain ⟨rb, rfl, hb⟩ : ∃ r, zb = nr r ∧ Hf 20000 r := by
    have := hp b (by simp)
    rcases zb2 with rfl | rfl
    · exact ⟨_, rfl, this.1⟩
    · exact ⟨_, rfl, this.2.1⟩
  have em : (a :: (mid ++ [b])).map pl = pl a :: (mid.map pl ++ [pl b]) := by simp
  have c1 := cut_mid (a := pl a) (b := pl b) (mid := mid.map pl)
  have l1 := atI_last (a := pl a) (b := pl b) (mid := mid.map pl)
  have hl3 : mid.length ≤ 30 := by simp at hl2; omega
  have a1 := pAdd_t (xs := [.tup [nr ra, nr ra]]) (ys := mid.map pl) (big_line (by simp; omega))
  have a2 := pAdd_t (xs := [.tup [nr ra, nr ra]] ++ mid.map pl) (ys := [.tup [nr rb, nr rb]]) (big_line (by simp; omega))
  refine ⟨m / 2 / 2, (ra, ra) :: (mid ++ [(rb, rb)]), fun p hpm => ?_, ⟨ra, rb, mid, rfl⟩, by simp, by simpa using hl2, ?_⟩
  · simp only [List.mem_cons, List.mem_append, List.not_mem_nil, or_false] at hpm
    rcases hpm with rfl | hpm | rfl
    · exact ⟨ha, ha, Rat.le_refl⟩
    · exact hp p (by simp [hpm])
    · exact ⟨hb, hb, Rat.le_refl⟩
  · rw [runDef_eq (by rfl)]
    rw [em] at q
    have em2 : ((ra, ra) :: (mid ++ [(rb, rb)])).map pl = [.tup [nr ra, nr ra]] ++ mid.map pl ++ [.tup [nr rb, nr rb]] := by simp [pl]
    rw [em2]
    have pa : pl a = .tup [nr a.1, nr a.2] := rfl
    have pb : pl b = .tup [nr b.1, nr b.2] := rfl
    rw [pa, pb] at q c1 l1
    simp only [List.cons_append, List.nil_append] at a1 a2 ⊢
    simp [-List.map_map, c__law_tube, e2, q, e1, t1, t2, hza, hzb, c1, l1, a1, a2, endSl]
end Ev

set_option Elab.async false
set_option linter.all false
set_option maxRecDepth 100000
set_option maxHeartbeats 4000000
set_option exponentiation.threshold 10000
namespace Ev
open PySem PySem.Spec PyProof.Rows L2
section
variable {g : Sg}
def wpS (i : Nat) (g' : Sg) : Option Sg := match g'[i]? with
  | some none => some g'
  | some (some (.val _)) => some (g'.set i none)
  | _ => none
theorem wipeG_cons {i : Nat} {is : List Nat} : wipeG g (i :: is) = ofO (wipeG g is) (wpS i) := by
  conv => lhs; unfold wipeG
  cases wipeG g is <;> rfl
@[simp] theorem wpS_n {i : Nat} (h : g[i]? = some none) : wpS i g = some g := by unfold wpS; rw [h]
@[simp] theorem wpS_v {i : Nat} {d : D} (h : g[i]? = some (some (.val d))) : wpS i g = some (g.set i none) := by unfold wpS; rw [h]
end
structure Jb where
  a : Nat
  d : Nat
  w : Rat
def jb (j : Jb) : D := .tup [.int j.a, .int j.d, nr j.w]
def okJ (j : Jb) : Prop := j.a < j.d ∧ j.d ≤ 24 ∧ 0 < j.w ∧ fz 10 j.w
def jobL (j : Jb) : List Nat := TL.numL j.a ++ 32 :: (TL.numL j.d ++ 32 :: ratL j.w)
def isJob : D → Bool
  | .tup [.int a, .int b, w] => decide (0 ≤ a) && decide (a < b) && decide (b ≤ 24) && numD w && decide (0 < ratD w)
  | _ => false
def PJob (s : List W → Option FR) : Prop := ∀ d, sane d = true → s [.val d] = some (.ret (.val (.bl (isJob d))) [.val d])
theorem job_len {xs : List D} (h : xs.length ≠ 3) : isJob (.tup xs) = false := by
  match xs, h with
  | [], _ => rfl
  | [x], _ => cases x <;> rfl
  | [x, y], _ => cases x <;> first | rfl | (cases y <;> rfl)
  | [_, _, _], h => exact absurd rfl h
  | x :: y :: _ :: _ :: _, _ => cases x <;> first | rfl | (cases y <;> rfl)
theorem nr0 : nr 0 = .tup [.int 0, .int 1] := rfl
theorem run_is_job (F : Fe) (h1 : Fn F "is_whole" PWhole) (h2 : Fn F "is_number" PIsNumS) (h3 : Fn F "is_less" PLess) (g1 : F.gv "LAST_HOUR" = some (.int 24)) (g2 : F.gv "NOUGHT" = some (.tup [.int 0, .int 1])) : PJob (runDef F ⟨1, 1, [0], c_is_job_v1⟩) := by
  obtain ⟨s1, e1, p1⟩ := h1
  obtain ⟨s2, e2, p2⟩ := h2
  obtain ⟨s3, e3, p3⟩ := h3
  intro d hd
  rw [runDef_eq (by rfl)]
  cases d with
  | tup xs =>
    obtain ⟨hl, hm⟩ := sane_tup hd
    by_cases h3l : xs.length = 3
    · match xs, h3l with
      | [x, y, z], _ =>
        have fx := p1 x (sane_plain x (hm x (by simp)))
        have fy := p1 y (sane_plain y (hm y (by simp)))
        have fz := p2 z (hm z (by simp))
        cases x with
        | int a =>
          cases y with
          | int b =>
            simp only [wholeD] at fx fy
            by_cases ha : 0 ≤ a
            · by_cases hab : a < b
              · by_cases hb : b ≤ 24
                · cases hz : numD z with
                  | false =>
                    rw [hz] at fz
                    simp [c_is_job_v1, e1, fx, fy, cmpB_le, cmpB_lt, ha, hab, hb, g1, e2, fz, isJob, hz]
                  | true =>
                    rw [hz] at fz
                    have ez := numD_nr hz
                    have zz := sz_sane (by rw [← ez]; exact hm z (by simp))
                    have ls := less_nr p3 (a := 0) (b := ratD z) ⟨by decide, by decide⟩ (szR_mono zz (by decide))
                    rw [nr0, ← ez] at ls
                    simp [c_is_job_v1, e1, fx, fy, cmpB_le, cmpB_lt, ha, hab, hb, g1, e2, fz, g2, e3, ls, isJob, hz]
                · simp [c_is_job_v1, e1, fx, fy, cmpB_le, cmpB_lt, ha, hab, hb, g1, isJob]
              · simp [c_is_job_v1, e1, fx, fy, cmpB_le, cmpB_lt, ha, hab, isJob]
            · simp [c_is_job_v1, e1, fx, fy, cmpB_le, cmpB_lt, ha, isJob]
          | _ => first | (have := hm _ (by simp : _ ∈ _); unfold sane at this; cases this; done) | (simp only [wholeD] at fx fy; simp [c_is_job_v1, e1, fx, fy, isJob])
        | _ => simp only [wholeD] at fx; simp [c_is_job_v1, e1, fx, isJob]
    · have e2 : decide ((xs.length : Int) = 3) = false := decide_eq_false (by omega)
      rw [job_len h3l]
      simp [c_is_job_v1, e2]
  | _ => first | (unfold sane at hd; cases hd; done) | simp [c_is_job_v1, isJob]
def a0 : D → Int
  | .tup (.int a :: _) => a
  | _ => 0
def d0 : D → Int
  | .tup (_ :: .int a :: _) => a
  | _ => 0
def chainB : List D → Bool
  | x :: y :: r => !(decide (a0 y < a0 x) || decide (d0 y < d0 x)) && chainB (y :: r)
  | _ => true
def jobsD : D → Bool
  | .tup xs => decide (1 ≤ xs.length) && decide (xs.length ≤ 12) && xs.all isJob && chainB xs
  | _ => false
theorem isJob_form {d : D} (h : isJob d = true) : ∃ (a b : Int) (w : D), d = .tup [.int a, .int b, w] := by
  unfold isJob at h
  split at h
  · exact ⟨_, _, _, rfl⟩
  · cases h
def jsBody : CB := (.cons (.iff (.or (.prim .lt (.cons (.prim .item (.cons (.v 2) (.cons (.k (.int 0)) .nil))) (.cons (.prim .item (.cons (.v 1) (.cons (.k (.int 0)) .nil))) .nil))) (.prim .lt (.cons (.prim .item (.cons (.v 2) (.cons (.k (.int 1)) .nil))) (.cons (.prim .item (.cons (.v 1) (.cons (.k (.int 1)) .nil))) .nil)))) (.cons (.ret (.k (.bl false))) .nil) .nil) .nil)
theorem jsBody_ap {F : Fe} {pin : List Nat} {g : Sg} : evB F pin jsBody g = evB F pin (.cons (.iff (.or (.prim .lt (.cons (.prim .item (.cons (.v 2) (.cons (.k (.int 0)) .nil))) (.cons (.prim .item (.cons (.v 1) (.cons (.k (.int 0)) .nil))) .nil))) (.prim .lt (.cons (.prim .item (.cons (.v 2) (.cons (.k (.int 1)) .nil))) (.cons (.prim .item (.cons (.v 1) (.cons (.k (.int 1)) .nil))) .nil)))) (.cons (.ret (.k (.bl false))) .nil) .nil) .nil) g := rfl
theorem js_loop (F : Fe) (t : W) (ht : t ≠ .out) : ∀ (xs : List D) (x1 x2 : Option W), x1 ≠ some .out → x2 ≠ some .out → (∀ x ∈ xs, isJob x = true) →
    (match chainB xs with
    | true => ∃ y1 y2, forL (turnF [0] [1, 2] true (evB F [0] jsBody)) (zipD xs (xs.drop 1)) [some t, x1, x2] = some (.nx [some t, y1, y2])
    | false => ∃ g, forL (turnF [0] [1, 2] true (evB F [0] jsBody)) (zipD xs (xs.drop 1)) [some t, x1, x2] = some (.ret (.val (.bl false)) (some t :: g)))
  | [], x1, x2, _, _, _ => ⟨x1, x2, rfl⟩
  | [x], x1, x2, _, _, _ => ⟨x1, x2, rfl⟩
  | x :: y :: r, x1, x2, n1, n2, hj => by
    obtain ⟨a, b, w, rfl⟩ := isJob_form (hj x (by simp))
    obtain ⟨a', b', w', rfl⟩ := isJob_form (hj y (by simp))
    have ih := js_loop F t ht (.tup [.int a', .int b', w'] :: r) (some (.val (.tup [.int a, .int b, w]))) (some (.val (.tup [.int a', .int b', w']))) (by simp) (by simp) fun z hz => hj z (List.mem_cons_of_mem _ hz)
    have e : zipD (.tup [.int a, .int b, w] :: .tup [.int a', .int b', w'] :: r) ((.tup [.int a, .int b, w] :: .tup [.int a', .int b', w'] :: r).drop 1) = .tup [.tup [.int a, .int b, w], .tup [.int a', .int b', w']] :: zipD (.tup [.int a', .int b', w'] :: r) ((.tup [.int a', .int b', w'] :: r).drop 1) := rfl
    rw [e]
    have hc : chainB (.tup [.int a, .int b, w] :: .tup [.int a', .int b', w'] :: r) = (!(decide (a' < a) || decide (b' < b)) && chainB (.tup [.int a', .int b', w'] :: r)) := rfl
    rw [hc]
    by_cases h1 : a' < a
    · simp only [decide_eq_true h1, Bool.true_or, Bool.not_true, Bool.false_and]
      refine ⟨[some (.val (.tup [.int a, .int b, w])), some (.val (.tup [.int a', .int b', w']))], ?_⟩
      rw [forL_cons]
      simp [n1, n2, jsBody_ap, h1]
    · by_cases h2 : b' < b
      · simp only [decide_eq_false h1, decide_eq_true h2, Bool.or_true, Bool.not_true, Bool.false_and]
        refine ⟨[some (.val (.tup [.int a, .int b, w])), some (.val (.tup [.int a', .int b', w']))], ?_⟩
        rw [forL_cons]
        simp [n1, n2, jsBody_ap, h1, h2]
      · simp only [decide_eq_false h1, decide_eq_false h2, Bool.or_false, Bool.not_false, Bool.true_and]
        have step : turnF [0] [1, 2] true (evB F [0] jsBody) (.tup [.tup [.int a, .int b, w], .tup [.int a', .int b', w']]) [some t, x1, x2] = some (.nx [some t, some (.val (.tup [.int a, .int b, w])), some (.val (.tup [.int a', .int b', w']))]) := by
          simp [n1, n2, jsBody_ap, h1, h2]
        rw [forL_cons, step, seqS_nx]
        exact ih
def PJobs (s : List W → Option FR) : Prop := ∀ d, sane d = true → s [.val d] = some (.ret (.val (.bl (jobsD d))) [.val d])
theorem drop1 {xs : List D} : cutD xs (some 1) none = xs.drop 1 := cutD_from (k := 1)
theorem run_is_jobs (F : Fe) (h1 : Fn F "is_job" PJob) (g1 : F.gv "MOST_JOBS" = some (.int 12)) : PJobs (runDef F ⟨1, 3, [0], c_is_jobs⟩) := by
  obtain ⟨s1, e1, p1⟩ := h1
  intro d hd
  rw [runDef_eq (by rfl)]
  cases d with
  | tup xs =>
    obtain ⟨hl, hm⟩ := sane_tup hd
    by_cases a1 : 1 ≤ xs.length
    · have b1 : decide ((1 : Int) ≤ (xs.length : Int)) = true := decide_eq_true (by omega)
      by_cases a2 : xs.length ≤ 12
      · have b2 : decide ((xs.length : Int) ≤ 12) = true := decide_eq_true (by omega)
        have ec := endL_map (tg := [1]) (tup := false) (c := evE F (.k (.bl true))) (e := evE F (.call "is_job" (.cons (.v 1) .nil))) (ds := xs) (bk := [(.val (.tup xs), none)]) (g1 := [some (.val (.tup xs)), none, none]) (g2 := [some (.val (.tup xs)), none, none]) (fun d => .bl (isJob d)) (by simp) (fun d hd => by
          rw [turnC_eq]
          simp [e1, p1 d (hm d hd)]) (by omega)
        have pa := pAll_map isJob xs
        cases hA : xs.all isJob with
        | false =>
          rw [hA] at pa
          simp [c_is_jobs, g1, cmpB_le, b1, b2, ec, pa, jobsD, a1, a2, hA]
        | true =>
          rw [hA] at pa
          have lp := js_loop F (.val (.tup xs)) (by simp) xs none none (by simp) (by simp) fun x hx => List.all_eq_true.mp hA x hx
          cases hC : chainB xs with
          | true =>
            rw [hC] at lp
            obtain ⟨y1, y2, lp⟩ := lp
            unfold jsBody at lp
            simp [-List.drop_one, c_is_jobs, g1, cmpB_le, b1, b2, ec, pa, jobsD, a1, a2, hA, evS_for, drop1, lp, hC]
          | false =>
            rw [hC] at lp
            obtain ⟨g, lp⟩ := lp
            unfold jsBody at lp
            simp [-List.drop_one, c_is_jobs, g1, cmpB_le, b1, b2, ec, pa, jobsD, a1, a2, hA, evS_for, drop1, lp, hC]
      · have b2 : decide ((xs.length : Int) ≤ 12) = false := decide_eq_false (by omega)
        simp [c_is_jobs, g1, cmpB_le, b1, b2, jobsD, a2]
    · have b1 : decide ((1 : Int) ≤ (xs.length : Int)) = false := decide_eq_false (by omega)
      simp [c_is_jobs, g1, cmpB_le, b1, jobsD, a1]
  | _ => first | (unfold sane at hd; cases hd; done) | simp [c_is_jobs, jobsD]
end Ev

set_option Elab.async false
set_option linter.all false
set_option maxRecDepth 100000
set_option maxHeartbeats 4000000
set_option exponentiation.threshold 10000
namespace Ev
open PySem PySem.Spec PyProof.Rows L2
def jobIn (l : List Nat) : D := match TL.spl [32] 0 [] l with
  | [a, b, c] => if (figs a && figs b) = true then .tup [.int (valL a), .int (valL b), prD (numIn c)] else .non
  | _ => .non
def PJobIn (s : List W → Option FR) : Prop := ∀ l, okL l → l.length ≤ 640 → s [.val (.str (tx l))] = some (.ret (.val (jobIn l)) [.val (.str (tx l))])
theorem sl_sc : Str.ofString "; " = tx [59, 32] := by decide
theorem run_job_in (F : Fe) (h1 : Fn F "are_figures" PFigs) (h2 : Fn F "number_in" PNumIn) : PJobIn (runDef F ⟨1, 2, [0], c_job_in⟩) := by
  obtain ⟨s1, e1, p1⟩ := h1
  obtain ⟨s2, e2, p2⟩ := h2
  intro l hk hl
  rw [runDef_eq (by rfl)]
  have sp := pSplit_tx (l := l) (s := [32]) (by simp) rfl (by omega)
  have hp : ∀ p ∈ TL.spl [32] 0 [] l, okL p ∧ p.length ≤ 640 := fun p q => by
    obtain ⟨h1, h2⟩ := spl_mem p q
    refine ⟨fun c hc => ?_, by simp at h1; omega⟩
    rcases h2 c hc with z | z
    · cases z
    · exact hk c z
  unfold jobIn
  generalize TL.spl [32] 0 [] l = ps at sp hp ⊢
  by_cases h3 : ps.length = 3
  · match ps, h3 with
    | [a, b, c], _ =>
      obtain ⟨ka, la⟩ := hp a (by simp)
      obtain ⟨kb, lb⟩ := hp b (by simp)
      obtain ⟨kc, lc⟩ := hp c (by simp)
      have fa := p1 a ka (by omega)
      have fb := p1 b kb (by omega)
      have fc := p2 c kc lc
      have ia := fun h : figs a = true => pInt_tx (l := a) (by rw [figs_strip h]; exact h) la
      have ib := fun h : figs b = true => pInt_tx (l := b) (by rw [figs_strip h]; exact h) lb
      simp only [List.map_cons, List.map_nil] at sp
      dsimp only
      cases ha : figs a with
      | false =>
        rw [ha] at fa
        simp [c_job_in, sl_sp, sp, e1, fa]
      | true =>
        rw [ha] at fa
        cases hb : figs b with
        | false =>
          rw [hb] at fb
          simp [c_job_in, sl_sp, sp, e1, fa, fb]
        | true =>
          rw [hb] at fb
          simp [c_job_in, sl_sp, sp, e1, fa, fb, ia ha, ib hb, e2, fc]
  · have e3 : decide ((ps.length : Int) = 3) = false := decide_eq_false (by omega)
    have : (match ps with
      | [a, b, c] => if (figs a && figs b) = true then D.tup [.int (valL a), .int (valL b), prD (numIn c)] else .non
      | _ => .non) = .non := by
      split
      · exact absurd rfl h3
      · rfl
    rw [this]
    simp [c_job_in, sl_sp, sp, e3]
theorem figs_lt {l : List Nat} (h : figs l = true) (hl : l.length ≤ 60) : (valL l).natAbs < 2 ^ 2000 := Nat.lt_of_lt_of_le (valL_lt (by rw [figs_strip h]; exact h)) (Nat.le_trans (Nat.pow_le_pow_right (by decide) hl) (by decide))
theorem numIn_sane {l : List Nat} (hl : l.length ≤ 60) : sane (prD (numIn l)) = true := by
  have big : ∀ k, k ≤ 60 → 10 ^ k ≤ 2 ^ 2000 := fun k hk => Nat.le_trans (Nat.pow_le_pow_right (by decide) hk) (by decide)
  have two : ∀ a b : Int, a.natAbs < 2 ^ 2000 → b.natAbs < 2 ^ 2000 → sane (prD (some (a, b))) = true := fun a b ha hb => by
    show (decide (([D.int a, .int b] : List D).length ≤ 1000) && sanes [.int a, .int b]) = true
    simp [sanes, sane, ha, hb]
  unfold numIn
  cases hp : TL.par [47] [] l with
  | none =>
    dsimp only
    split
    · rename_i hc
      simp only [Bool.and_eq_true] at hc
      exact two _ _ (Nat.lt_of_lt_of_le (valL_lt hc.1) (big _ hl)) (by decide)
    · rfl
  | some tb =>
    obtain ⟨t, b⟩ := tb
    obtain ⟨lt, lb⟩ := par_len hp
    simp only [List.length_nil, Nat.zero_add] at lt
    dsimp only
    split
    · rename_i hc
      simp only [Bool.and_eq_true] at hc
      obtain ⟨⟨⟨⟨h1, h2⟩, h3⟩, h4⟩, h5⟩ := hc
      exact two _ _ (Nat.lt_of_lt_of_le (valL_lt h1) (big _ (by omega))) (Nat.lt_of_lt_of_le (valL_lt (by rw [figs_strip h3]; exact h3)) (big _ (by omega)))
    · rfl
theorem jobIn_sane {l : List Nat} (hl : l.length ≤ 60) : sane (jobIn l) = true := by
  have hp : ∀ p ∈ TL.spl [32] 0 [] l, p.length ≤ 60 := fun p q => by
    have := (spl_mem p q).1
    simp at this
    omega
  unfold jobIn
  generalize TL.spl [32] 0 [] l = ps at hp
  split
  · rename_i a b c
    split
    · rename_i h
      obtain ⟨ha, hb⟩ := Bool.and_eq_true_iff.mp h
      have h1 := figs_lt ha (hp a (by simp))
      have h2 := figs_lt hb (hp b (by simp))
      have h3 := numIn_sane (hp c (by simp))
      show (decide (([D.int (valL a), .int (valL b), prD (numIn c)] : List D).length ≤ 1000) && sanes [.int (valL a), .int (valL b), prD (numIn c)]) = true
      simp only [sanes, h3]
      simp [sane, h1, h2]
    · rfl
  · rfl
def rdJ (k : Nat) (acc : List D) : List (List Nat) → Nat ⊕ List D
  | [] => .inr acc
  | p :: ps => if jobsD (.tup (acc ++ [jobIn p])) = true then rdJ (k + 1) (acc ++ [jobIn p]) ps else .inl k
def jBody : CB := (.cons (.set 1 (.prim .add (.cons (.v 1) (.cons (.tup (.cons (.call "job_in" (.cons (.v 3) .nil)) .nil)) .nil)))) (.cons (.iff (.not (.call "is_jobs" (.cons (.v 1) .nil))) (.cons (.raise "NoText" (some "part") (.v 2)) .nil) .nil) .nil))
theorem jBody_ap {F : Fe} {pin : List Nat} {g : Sg} : evB F pin jBody g = evB F pin (.cons (.set 1 (.prim .add (.cons (.v 1) (.cons (.tup (.cons (.call "job_in" (.cons (.v 3) .nil)) .nil)) .nil)))) (.cons (.iff (.not (.call "is_jobs" (.cons (.v 1) .nil))) (.cons (.raise "NoText" (some "part") (.v 2)) .nil) .nil) .nil)) g := rfl
theorem jobsD_len {xs : List D} (h : jobsD (.tup xs) = true) : xs.length ≤ 12 := by
  unfold jobsD at h
  simp only [Bool.and_eq_true, decide_eq_true_eq] at h
  exact h.1.1.2
theorem j_loop (F : Fe) (h1 : Fn F "job_in" PJobIn) (h2 : Fn F "is_jobs" PJobs) (t : W) (ht : t ≠ .out) : ∀ (ps : List (List Nat)) (k : Nat) (acc : List D) (x2 x3 : Option W), x2 ≠ some .out → x3 ≠ some .out → acc.length ≤ 12 → (∀ d ∈ acc, sane d = true) → (∀ p ∈ ps, okL p ∧ p.length ≤ 60) →
    (match rdJ k acc ps with
    | .inr qs => ∃ y2 y3, forL (turnF [0] [2, 3] true (evB F [0] jBody)) (enumD k (ps.map fun p => .str (tx p))) [some t, some (.val (.tup acc)), x2, x3] = some (.nx [some t, some (.val (.tup qs)), y2, y3])
    | .inl j => ∃ g, forL (turnF [0] [2, 3] true (evB F [0] jBody)) (enumD k (ps.map fun p => .str (tx p))) [some t, some (.val (.tup acc)), x2, x3] = some (.exc ⟨"NoText", some ("part", .int (j : Nat))⟩ (some t :: g)))
  | [], k, acc, x2, x3, _, _, _, _, _ => ⟨x2, x3, rfl⟩
  | p :: ps, k, acc, x2, x3, n2, n3, hl, hs, hp => by
    obtain ⟨s1, e1, p1⟩ := h1
    obtain ⟨s2, e2, p2⟩ := h2
    obtain ⟨kp, lp⟩ := hp p List.mem_cons_self
    have q := p1 p kp (by omega)
    have sj := jobIn_sane lp
    have hs2 : ∀ d ∈ acc ++ [jobIn p], sane d = true := fun d hd => by
      rcases List.mem_append.mp hd with hd | hd
      · exact hs d hd
      · rw [List.mem_singleton.mp hd]; exact sj
    have q2 := p2 (.tup (acc ++ [jobIn p])) (by
      unfold sane
      rw [Bool.and_eq_true]
      exact ⟨decide_eq_true (by simp; omega), sanes_of hs2⟩)
    have e : enumD k ((p :: ps).map fun p => D.str (tx p)) = .tup [.int k, .str (tx p)] :: enumD (k + 1) (ps.map fun p => .str (tx p)) := rfl
    have ha := pAdd_t (xs := acc) (ys := [jobIn p]) (by simp; exact big_line (by omega))
    rw [e]
    unfold rdJ
    cases hj : jobsD (.tup (acc ++ [jobIn p])) with
    | false =>
      rw [hj] at q2
      rw [if_neg (by simp)]
      refine ⟨[some (.val (.tup (acc ++ [jobIn p]))), some (.val (.int k)), some (.val (.str (tx p)))], ?_⟩
      rw [forL_cons]
      simp [n2, n3, jBody_ap, e1, q, e2, q2, ha]
    | true =>
      rw [hj] at q2
      rw [if_pos rfl]
      have ih := j_loop F ⟨s1, e1, p1⟩ ⟨s2, e2, p2⟩ t ht ps (k + 1) (acc ++ [jobIn p]) (some (.val (.int k))) (some (.val (.str (tx p)))) (by simp) (by simp) (jobsD_len hj) hs2 fun x hx => hp x (List.mem_cons_of_mem _ hx)
      have step : turnF [0] [2, 3] true (evB F [0] jBody) (.tup [.int k, .str (tx p)]) [some t, some (.val (.tup acc)), x2, x3] = some (.nx [some t, some (.val (.tup (acc ++ [jobIn p]))), some (.val (.int k)), some (.val (.str (tx p)))]) := by
        simp [n2, n3, jBody_ap, e1, q, e2, q2, ha]
      rw [forL_cons, step, seqS_nx]
      exact ih
def rjOut (t : D) : Nat ⊕ List D → Option FR
  | .inr ds => some (.ret (.val (.tup ds)) [.val t])
  | .inl k => refN t k
def PReadJ (s : List W → Option FR) : Prop := (∀ l, okL l → l.length ≤ 100000 → (∀ p ∈ TL.spl [59, 32] 0 [] l, p.length ≤ 60) → s [.val (.str (tx l))] = rjOut (.str (tx l)) (rdJ 0 [] (TL.spl [59, 32] 0 [] l)))
  ∧ ∀ d, plain d = true → (∀ x, d ≠ .str x) → s [.val d] = some (.exc ⟨"NoText", some ("part", .non)⟩ [.val d])
theorem run_read_jobs (F : Fe) (h0 : Fn F "check_text" PCheck) (h1 : Fn F "job_in" PJobIn) (h2 : Fn F "is_jobs" PJobs) : PReadJ (runDef F ⟨1, 4, [0], c_read_jobs⟩) := by
  obtain ⟨s0, e0, p0⟩ := h0
  refine ⟨fun l hk hl hp => ?_, fun d hd hx => ?_⟩
  · rw [runDef_eq (by rfl)]
    have sp := pSplit_tx (l := l) (s := [59, 32]) (by simp) rfl hl
    have lp := j_loop F h1 h2 (.val (.str (tx l))) (by simp) (TL.spl [59, 32] 0 [] l) 0 [] none none (by simp) (by simp) (by simp) (fun _ h => nomatch h) fun p q => ⟨fun c hc => by
      rcases (spl_mem p q).2 c hc with z | z
      · cases z
      · exact hk c z, hp p q⟩
    cases hr : rdJ 0 [] (TL.spl [59, 32] 0 [] l) with
    | inr qs =>
      rw [hr] at lp
      obtain ⟨y2, y3, lp⟩ := lp
      unfold jBody at lp
      simp [c_read_jobs, e0, p0.1, sl_sc, sp, evS_for, lp, rjOut]
    | inl j =>
      rw [hr] at lp
      obtain ⟨g, lp⟩ := lp
      unfold jBody at lp
      simp [c_read_jobs, e0, p0.1, sl_sc, sp, evS_for, lp, rjOut, refN]
  · rw [runDef_eq (by rfl)]
    have := p0.2 d hd hx
    simp [c_read_jobs, e0, this]
theorem chain_pre : ∀ {xs ys : List D}, chainB (xs ++ ys) = true → chainB xs = true
  | [], _, _ => rfl
  | [x], _, _ => rfl
  | x :: y :: r, ys, h => by
    have h : (!(decide (a0 y < a0 x) || decide (d0 y < d0 x)) && chainB (y :: r ++ ys)) = true := h
    show (!(decide (a0 y < a0 x) || decide (d0 y < d0 x)) && chainB (y :: r)) = true
    obtain ⟨h1, h2⟩ := Bool.and_eq_true_iff.mp h
    rw [h1, chain_pre h2]
    rfl
theorem chain_snoc : ∀ {xs : List D} {y : D}, chainB xs = true → (∀ x ∈ xs, a0 x ≤ a0 y ∧ d0 x ≤ d0 y) → chainB (xs ++ [y]) = true
  | [], _, _, _ => rfl
  | [x], y, _, h => by
    obtain ⟨h1, h2⟩ := h x (by simp)
    show (!(decide (a0 y < a0 x) || decide (d0 y < d0 x)) && true) = true
    simp
    omega
  | x :: z :: r, y, hc, h => by
    have hc : (!(decide (a0 z < a0 x) || decide (d0 z < d0 x)) && chainB (z :: r)) = true := hc
    obtain ⟨h1, h2⟩ := Bool.and_eq_true_iff.mp hc
    have ih := chain_snoc h2 fun w hw => h w (List.mem_cons_of_mem _ hw)
    show (!(decide (a0 z < a0 x) || decide (d0 z < d0 x)) && chainB (z :: r ++ [y])) = true
    rw [h1, ih]
    rfl
theorem chain_fall : ∀ {xs : List D} {x y : D}, a0 y < a0 x ∨ d0 y < d0 x → chainB (xs ++ [x] ++ [y]) = false
  | [], x, y, h => by
    show (!(decide (a0 y < a0 x) || decide (d0 y < d0 x)) && true) = false
    rcases h with h | h <;> simp [h]
  | [z], x, y, h => by
    have ih := chain_fall (xs := []) h
    show (!(decide (a0 x < a0 z) || decide (d0 x < d0 z)) && chainB ([x] ++ [y])) = false
    simp only [List.nil_append] at ih
    rw [ih, Bool.and_false]
  | z :: w :: r, x, y, h => by
    have ih := chain_fall (xs := w :: r) h
    show (!(decide (a0 w < a0 z) || decide (d0 w < d0 z)) && chainB (w :: r ++ [x] ++ [y])) = false
    rw [ih, Bool.and_false]
theorem jobsD_iff {xs : List D} : jobsD (.tup xs) = true ↔ 1 ≤ xs.length ∧ xs.length ≤ 12 ∧ (∀ x ∈ xs, isJob x = true) ∧ chainB xs = true := by
  unfold jobsD
  simp only [Bool.and_eq_true, decide_eq_true_eq, List.all_eq_true]
  constructor
  · rintro ⟨⟨⟨h1, h2⟩, h3⟩, h4⟩
    exact ⟨h1, h2, h3, h4⟩
  · rintro ⟨h1, h2, h3, h4⟩
    exact ⟨⟨⟨h1, h2⟩, h3⟩, h4⟩
theorem jobsD_pre {xs ys : List D} (h : jobsD (.tup (xs ++ ys)) = true) (h0 : xs ≠ []) : jobsD (.tup xs) = true := by
  rw [jobsD_iff] at h ⊢
  obtain ⟨_, h2, h3, h4⟩ := h
  refine ⟨?_, by simp at h2; omega, fun x hx => h3 x (List.mem_append_left _ hx), chain_pre h4⟩
  cases xs with
  | nil => exact absurd rfl h0
  | cons _ _ => simp
theorem rdJ_ok : ∀ (ps : List (List Nat)) (k : Nat) (acc : List D) (r : List (List Nat)), (ps = [] ∨ jobsD (.tup (acc ++ ps.map jobIn)) = true) → rdJ k acc (ps ++ r) = rdJ (k + ps.length) (acc ++ ps.map jobIn) r
  | [], k, acc, r, _ => by simp
  | p :: ps, k, acc, r, h => by
    have h : jobsD (.tup (acc ++ (p :: ps).map jobIn)) = true := by
      rcases h with h | h
      · cases h
      · exact h
    have e : acc ++ (p :: ps).map jobIn = (acc ++ [jobIn p]) ++ ps.map jobIn := by simp
    rw [e] at h ⊢
    show rdJ k acc (p :: (ps ++ r)) = _
    conv => lhs; unfold rdJ
    rw [if_pos (jobsD_pre h (by simp)), rdJ_ok ps (k + 1) (acc ++ [jobIn p]) r (.inr h)]
    rw [List.length_cons, show k + 1 + ps.length = k + (ps.length + 1) by omega]
theorem rdJ_bad {k : Nat} {acc : List D} {p : List Nat} {r : List (List Nat)} (h : jobsD (.tup (acc ++ [jobIn p])) = false) : rdJ k acc (p :: r) = .inl k := by
  unfold rdJ
  rw [if_neg (by rw [h]; simp)]
theorem bad_job {acc : List D} {d : D} (h : isJob d = false) : jobsD (.tup (acc ++ [d])) = false := by
  unfold jobsD
  simp [h]
theorem numL_val (n : Nat) : valL (TL.numL n) = n := by
  have := intL_val (n : Int)
  unfold intL at this
  rw [if_neg (by omega), Int.natAbs_natCast] at this
  exact this
theorem intL_nat (n : Nat) : intL (n : Int) = TL.numL n := by
  unfold intL
  rw [if_neg (by omega), Int.natAbs_natCast]
theorem jobIn_jobL (j : Jb) : jobIn (jobL j) = jb j := by
  unfold jobIn jobL
  rw [spl_app, spl_app, spl_free (TL.numL_free (by omega)), spl_free (TL.numL_free (by omega)), spl_free (ratL_free (by omega))]
  show (if (figs (TL.numL j.a) && figs (TL.numL j.d)) = true then D.tup [.int (valL (TL.numL j.a)), .int (valL (TL.numL j.d)), prD (numIn (ratL j.w))] else .non) = _
  rw [numL_figs, numL_figs, if_pos (by rfl), numL_val, numL_val, numIn_rat]
  rfl
theorem map_jobIn {js : List Jb} : (js.map jobL).map jobIn = js.map jb := by
  rw [List.map_map]
  exact List.map_congr_left fun j _ => jobIn_jobL j
theorem isJob_jb {j : Jb} (h : okJ j) : isJob (jb j) = true := by
  obtain ⟨h1, h2, h3, _⟩ := h
  show (decide ((0 : Int) ≤ j.a) && decide ((j.a : Int) < j.d) && decide ((j.d : Int) ≤ 24) && numD (nr j.w) && decide (0 < ratD (nr j.w))) = true
  rw [numD_of, ratD_nr]
  simp [h3]
  omega
theorem sane_jb {j : Jb} (h : okJ j) : sane (jb j) = true := by
  obtain ⟨h1, h2, h3, h4⟩ := h
  have hn := sane_nr (szR_mono (fz_szk h4) (by decide : 40 ≤ 2000))
  have big : (24 : Nat) < 2 ^ 2000 := by decide
  have ha : j.a < 2 ^ 2000 := by omega
  have hd : j.d < 2 ^ 2000 := by omega
  show (decide (([D.int j.a, .int j.d, nr j.w] : List D).length ≤ 1000) && sanes [.int j.a, .int j.d, nr j.w]) = true
  simp only [sanes, hn]
  simp [sane, ha, hd]
theorem numL_len2 {n : Nat} (h : n ≤ 24) : (TL.numL n).length ≤ 2 := TL.numL_len (by decide) (by omega)
theorem jobL_len {j : Jb} (h : okJ j) : (jobL j).length ≤ 30 := by
  obtain ⟨h1, h2, h3, h4⟩ := h
  have l1 := numL_len2 (n := j.a) (by omega)
  have l2 := numL_len2 h2
  have l3 := fz_len h4
  unfold jobL
  simp only [List.length_append, List.length_cons]
  omega
theorem jobL_ok (j : Jb) : okL (jobL j) := okL_app.mpr ⟨numL_ok _, okL_cons.mpr ⟨by decide, okL_app.mpr ⟨numL_ok _, okL_cons.mpr ⟨by decide, ratL_ok _⟩⟩⟩⟩
theorem jobL_free {j : Jb} : 59 ∉ jobL j := by
  unfold jobL
  simp only [List.mem_append, List.mem_cons]
  rintro (h | h | h | h | h)
  · exact TL.numL_free (by omega) h
  · omega
  · exact TL.numL_free (by omega) h
  · omega
  · exact ratL_free (by omega) h
theorem flat_js {js : List Jb} : (js.map jobL).flatMap (TL.spl [59, 32] 0 []) = js.map jobL := flat_free2 fun p hp => by
  obtain ⟨r, _, rfl⟩ := List.mem_map.mp hp
  exact jobL_free
theorem js_ok {js : List Jb} (hr : ∀ j ∈ js, okJ j) : ∀ p ∈ js.map jobL, okL p ∧ p.length ≤ 60 := fun p hp => by
  obtain ⟨r, hm, rfl⟩ := List.mem_map.mp hp
  have := jobL_len (hr r hm)
  exact ⟨jobL_ok r, by omega⟩
/-- jobs as they should be -/
def okJs (js : List Jb) : Prop := (∀ j ∈ js, okJ j) ∧ chainB (js.map jb) = true ∧ 1 ≤ js.length ∧ js.length ≤ 12
theorem okJs_D {js : List Jb} (h : okJs js) : jobsD (.tup (js.map jb)) = true ∧ sane (.tup (js.map jb)) = true := by
  obtain ⟨h1, h2, h3, h4⟩ := h
  constructor
  · rw [jobsD_iff]
    refine ⟨by rw [List.length_map]; exact h3, by rw [List.length_map]; exact h4, fun x hx => ?_, h2⟩
    obtain ⟨j, hj, rfl⟩ := List.mem_map.mp hx
    exact isJob_jb (h1 j hj)
  · unfold sane
    rw [Bool.and_eq_true]
    refine ⟨decide_eq_true (by rw [List.length_map]; omega), sanes_of fun d hd => ?_⟩
    obtain ⟨j, hj, rfl⟩ := List.mem_map.mp hd
    exact sane_jb (h1 j hj)
theorem readJ_shown {s : List W → Option FR} (hp : PReadJ s) {js : List Jb} (h : okJs js) : s [.val (.str (tx (TL.joinL [59, 32] (js.map jobL))))] = some (.ret (.val (.tup (js.map jb))) [.val (.str (tx (TL.joinL [59, 32] (js.map jobL))))]) := by
  obtain ⟨hd, _⟩ := okJs_D h
  obtain ⟨hr, _, h1, h2⟩ := h
  have h0 : js.map jobL ≠ [] := by
    intro e
    have e : js = [] := by simpa using e
    rw [e] at h1
    simp at h1
  have hm := js_ok hr
  have es : TL.spl [59, 32] 0 [] (TL.joinL [59, 32] (js.map jobL)) = js.map jobL := by rw [spl_glue2 (by decide) h0, flat_js]
  have := hp.1 (TL.joinL [59, 32] (js.map jobL)) (joinL_ok (okL_lit rfl) fun p q => (hm p q).1) (by
    have := joinL_len (s := [59, 32]) (k := 60) fun p q => (hm p q).2
    rw [List.length_map] at this
    simp at this
    omega) (fun p q => by rw [es] at q; exact (hm p q).2)
  rw [this, es]
  have r := rdJ_ok (js.map jobL) 0 [] [] (.inr (by rw [List.nil_append, map_jobIn]; exact hd))
  rw [List.append_nil, List.nil_append, map_jobIn] at r
  rw [r]
  rfl
def PShowJ (s : List W → Option FR) : Prop := ∀ js : List Jb, (∀ j ∈ js, okJ j) → js.length ≤ 1000 → s [.val (.tup (js.map jb))] = some (.ret (.val (.str (tx (TL.joinL [59, 32] (js.map jobL))))) [.val (.tup (js.map jb))])
/-- what a job's data writes -/
def shJ : D → D
  | .tup [.int a, .int b, w] => .str (tx (intL a ++ 32 :: (intL b ++ 32 :: ratL (ratD w))))
  | d => d
theorem shJ_jb (j : Jb) : shJ (jb j) = .str (tx (jobL j)) := by
  show D.str (tx (intL (j.a : Int) ++ 32 :: (intL (j.d : Int) ++ 32 :: ratL (ratD (nr j.w))))) = _
  rw [ratD_nr, intL_nat, intL_nat]
  rfl
theorem map_jb {js : List Jb} : (js.map jb).map shJ = (js.map jobL).map fun p => .str (tx p) := by
  rw [List.map_map, List.map_map]
  exact List.map_congr_left fun j _ => shJ_jb j
section
variable {j : Jb} (h : okJ j)
include h
theorem js1 : pStr (.int (j.a : Int)) = some (.val (.str (tx (TL.numL j.a)))) := by
  rw [pStr_i, intL_nat]
  rw [Int.natAbs_natCast]
  exact Nat.lt_of_le_of_lt (Nat.le_trans (Nat.le_of_lt h.1) h.2.1) (by decide)
theorem js2 : pStr (.int (j.d : Int)) = some (.val (.str (tx (TL.numL j.d)))) := by
  rw [pStr_i, intL_nat]
  rw [Int.natAbs_natCast]
  exact Nat.lt_of_le_of_lt h.2.1 (by decide)
theorem js_adds : pAdd (.str (tx (TL.numL j.a))) (.str (tx [32])) = some (.val (.str (tx (TL.numL j.a ++ [32]))))
    ∧ pAdd (.str (tx (TL.numL j.a ++ [32]))) (.str (tx (TL.numL j.d))) = some (.val (.str (tx (TL.numL j.a ++ [32] ++ TL.numL j.d))))
    ∧ pAdd (.str (tx (TL.numL j.a ++ [32] ++ TL.numL j.d))) (.str (tx [32])) = some (.val (.str (tx (TL.numL j.a ++ [32] ++ TL.numL j.d ++ [32]))))
    ∧ pAdd (.str (tx (TL.numL j.a ++ [32] ++ TL.numL j.d ++ [32]))) (.str (tx (ratL j.w))) = some (.val (.str (tx (jobL j)))) := by
  obtain ⟨h1, h2, h3, h4⟩ := h
  have l1 := numL_len2 (n := j.a) (by omega)
  have l2 := numL_len2 h2
  have l3 := fz_len h4
  refine ⟨pAdd_tx (by simp; omega), pAdd_tx (by simp; omega), pAdd_tx (by simp; omega), ?_⟩
  rw [pAdd_tx (by simp; omega)]
  unfold jobL
  simp
end
theorem run_show_jobs (F : Fe) (h : Fn F "show_number" PShowN) : PShowJ (runDef F ⟨1, 4, [0], c_show_jobs⟩) := by
  obtain ⟨s, e, p⟩ := h
  intro js hr hl
  rw [runDef_eq (by rfl)]
  have ec := endL_map (tg := [1, 2, 3]) (tup := true) (c := evE F (.k (.bl true))) (e := evE F (.prim .add (.cons (.prim .add (.cons (.prim .add (.cons (.prim .add (.cons (.prim .str (.cons (.v 1) .nil)) (.cons (.k (.str " ")) .nil))) (.cons (.prim .str (.cons (.v 2) .nil)) .nil))) (.cons (.k (.str " ")) .nil))) (.cons (.call "show_number" (.cons (.v 3) .nil)) .nil)))) (ds := js.map jb) (bk := [(.val (.tup (js.map jb)), none)]) (g1 := [some (.val (.tup (js.map jb))), none, none, none]) (g2 := [some (.val (.tup (js.map jb))), none, none, none]) shJ (by simp [wipeG_cons]) (fun d hd => by
    obtain ⟨r, hm, rfl⟩ := List.mem_map.mp hd
    have ok := hr r hm
    have s1 := js1 ok
    have s2 := js2 ok
    obtain ⟨t1, t2, t3, t4⟩ := js_adds ok
    have q := p r.w (fz_sz ok.2.2.2)
    rw [turnC_eq, shJ_jb]
    unfold jb
    simp [-List.append_assoc, sl_sp, s1, s2, t1, t2, t3, t4, e, q, wipeG_cons]) (by rw [List.length_map]; omega)
  rw [map_jb] at ec
  have ej := pJoin_l (s := [59, 32]) (ps := js.map jobL) (k := 60) (fun p hp => (js_ok hr p hp).2) (by rw [List.length_map]; simp; omega)
  simp [-List.map_map, c_show_jobs, sl_sc, ec, ej]
def PJobT (s : List W → Option FR) : Prop := ∀ j : Jb, okJ j → s [.val (jb j)] = some (.ret (.val (.str (tx (jobL j)))) [.val (jb j)])
theorem run_job_text (F : Fe) (h : Fn F "_law_number_text" PShowN) : PJobT (runDef F ⟨1, 1, [0], c__law_job_text⟩) := by
  obtain ⟨s, e, p⟩ := h
  intro j ok
  rw [runDef_eq (by rfl)]
  have s1 := js1 ok
  have s2 := js2 ok
  obtain ⟨t1, t2, t3, t4⟩ := js_adds ok
  have q := p j.w (fz_sz ok.2.2.2)
  unfold jb
  simp [-List.append_assoc, c__law_job_text, sl_sp, s1, s2, t1, t2, t3, t4, e, q]
end Ev

set_option Elab.async false
set_option linter.all false
set_option maxRecDepth 100000
set_option maxHeartbeats 4000000
set_option exponentiation.threshold 10000
namespace Ev
open PySem PySem.Spec PyProof.Rows L2
theorem ofS (s : String) : Str.ofString s = tx (s.toList.map Char.toNat) := by
  apply TL.ext_tl
  rw [TL.tl_ofString]
  rfl
def cod (s : String) : List Nat := s.toList.map Char.toNat
def PStrs (l : List String) (s : List W → Option FR) : Prop := s [] = some (.ret (.lst (l.map fun o => .str (tx (cod o)))) [])
theorem strs_eq (l : List String) : (l.map fun o => D.str (tx (cod o))) = l.map fun s => D.str (Str.ofString s) := List.map_congr_left fun s _ => by
  show D.str (tx _) = D.str (Str.ofString s)
  rw [ofS]
  rfl
def nthS : Nat → CB → CS
  | 0, .cons s _ => s
  | n + 1, .cons _ r => nthS n r
  | _, .nil => .pass
def forB : CS → CB
  | .for _ _ _ b => b
  | _ => .nil
theorem nat_mod {n : Int} {m : Nat} (h : 0 < m) : ∃ k : Nat, n % (m : Int) = k ∧ k < m := by
  have h0 := Int.emod_nonneg n (show (m : Int) ≠ 0 by omega)
  have h1 := Int.emod_lt_of_pos n (show (0 : Int) < m by omega)
  exact ⟨(n % (m : Int)).toNat, by omega, by omega⟩
theorem rangeDC_mem : ∀ (n : Nat) (c lo : Int), ∀ d ∈ rangeDC c lo n, ∃ i : Nat, i < n ∧ d = .int (lo + c * i)
  | 0, _, _, d, h => nomatch h
  | n + 1, c, lo, d, h => by
    rcases List.mem_cons.mp h with rfl | h
    · exact ⟨0, by omega, by simp⟩
    · obtain ⟨i, h1, h2⟩ := rangeDC_mem n c (lo + c) d h
      refine ⟨i + 1, by omega, ?_⟩
      rw [h2]
      congr 1
      rw [Int.natCast_add, Int.mul_add]
      simp
      omega
theorem range2 {j : Int} (h : 1 ≤ j ∧ j ≤ 16) : ∃ ds, rangeOf [.int 0, .int j, .int 2] = some ds ∧ ∀ d ∈ ds, ∃ t : Int, 0 ≤ t ∧ t ≤ 100 ∧ d = .int t := by
  have key : ∀ k : Nat, k < 16 → ∃ n, rangeOf [.int 0, .int ((k + 1 : Nat) : Int), .int 2] = some (rangeDC 2 0 n) ∧ n ≤ 8 := by
    intro k hk
    match k, hk with
    | 0, _ => exact ⟨1, rfl, by decide⟩
    | 1, _ => exact ⟨1, rfl, by decide⟩
    | 2, _ => exact ⟨2, rfl, by decide⟩
    | 3, _ => exact ⟨2, rfl, by decide⟩
    | 4, _ => exact ⟨3, rfl, by decide⟩
    | 5, _ => exact ⟨3, rfl, by decide⟩
    | 6, _ => exact ⟨4, rfl, by decide⟩
    | 7, _ => exact ⟨4, rfl, by decide⟩
    | 8, _ => exact ⟨5, rfl, by decide⟩
    | 9, _ => exact ⟨5, rfl, by decide⟩
    | 10, _ => exact ⟨6, rfl, by decide⟩
    | 11, _ => exact ⟨6, rfl, by decide⟩
    | 12, _ => exact ⟨7, rfl, by decide⟩
    | 13, _ => exact ⟨7, rfl, by decide⟩
    | 14, _ => exact ⟨8, rfl, by decide⟩
    | 15, _ => exact ⟨8, rfl, by decide⟩
    | k + 16, h => omega
  obtain ⟨k, hk⟩ := Int.eq_ofNat_of_zero_le (show 0 ≤ j - 1 by omega)
  have hj : j = ((k + 1 : Nat) : Int) := by omega
  obtain ⟨n, h1, h2⟩ := key k (by omega)
  rw [hj]
  refine ⟨_, h1, fun d hd => ?_⟩
  obtain ⟨i, h3, rfl⟩ := rangeDC_mem n 2 0 d hd
  exact ⟨0 + 2 * i, by omega, by omega, rfl⟩
theorem pMul_ls {x : D} {j : Int} (h : 0 ≤ j ∧ j < 1000) : pMul (.lst [x]) (.int j) = some (.lst (List.replicate j.toNat x)) := if_pos ⟨h.1, h.2, rfl⟩
theorem atI_end {α : Type} {xs : List α} {b : α} : atI (xs ++ [b]) (-1) = some b := by
  have := atI_neg (l := xs ++ [b]) 1 (by decide) (by simp)
  rw [show -((1 : Nat) : Int) = -1 from rfl] at this
  rw [this]
  simp
theorem joinL_snoc {s x : List Nat} : ∀ {ps : List (List Nat)}, ps ≠ [] → TL.joinL s (ps ++ [x]) = TL.joinL s ps ++ s ++ x
  | [], h => absurd rfl h
  | [p], _ => by
    show p ++ (s ++ x) = p ++ s ++ x
    rw [List.append_assoc]
  | p :: q :: r, _ => by
    have := joinL_snoc (s := s) (x := x) (ps := q :: r) (by simp)
    show p ++ (s ++ TL.joinL s ((q :: r) ++ [x])) = p ++ (s ++ TL.joinL s (q :: r)) ++ s ++ x
    rw [this]
    simp
theorem divInt_pos {a b : Int} (ha : 0 < a) (hb : 0 < b) : 0 < Rat.divInt a b := by
  rw [← Rat.not_le]
  intro h
  have h2 : 0 ≤ -Rat.divInt a b := by
    have := Rat.neg_le_neg h
    rwa [Rat.neg_zero] at this
  rw [Rat.neg_divInt, Rat.divInt_nonneg_iff_of_pos_right hb] at h2
  omega
def RJ (d x : D) : Prop := (∃ l, d = .str (tx l) ∧ okL l ∧ l.length ≤ 100000 ∧ (∀ p ∈ TL.spl [59, 32] 0 [] l, p.length ≤ 60) ∧ ∃ k : Nat, x = .int k ∧ rdJ 0 [] (TL.spl [59, 32] 0 [] l) = .inl k) ∨ (plain d = true ∧ (∀ y, d ≠ .str y) ∧ x = .non)
theorem refJ_of {s : List W → Option FR} (hp : PReadJ s) {d x : D} (h : RJ d x) : Ref s d x ∧ eqD x x = some true ∧ isTy "bool" x = some false := by
  rcases h with ⟨l, rfl, h1, h2, h3, k, rfl, h4⟩ | ⟨h1, h2, rfl⟩
  · refine ⟨⟨_, (hp.1 l h1 h2 h3).trans (by rw [h4]; rfl)⟩, by simp, rfl⟩
  · exact ⟨⟨_, hp.2 d h1 h2⟩, rfl, rfl⟩
def PRefJobs (s : List W → Option FR) : Prop := ∀ d x, RJ d x → s [.val (.fn "read_jobs"), .val d, .val x] = some (.ret (.val (.bl true)) [.val (.fn "read_jobs"), .val d, .val x])
theorem prefjobs {F : Fe} {s : List W → Option FR} (h : PRefused F s) (hr : Fn F "read_jobs" PReadJ) : PRefJobs s := fun d x q => by
  obtain ⟨t, e, p⟩ := hr
  obtain ⟨h1, h2, h3⟩ := refJ_of p q
  exact h _ d x ⟨t, e, h1⟩ h2 h3
theorem rj_parts {ps : List (List Nat)} {j : Nat} (h0 : ps ≠ []) (hm : ∀ p ∈ ps, okL p ∧ p.length ≤ 60) (hl : ps.length ≤ 1000) (hb : rdJ 0 [] (ps.flatMap (TL.spl [59, 32] 0 [])) = .inl j) : RJ (.str (tx (TL.joinL [59, 32] ps))) (.int j) := by
  have e := spl_glue2 (c := 59) (d := 32) (by decide) h0
  refine .inl ⟨_, rfl, joinL_ok (okL_lit rfl) fun p q => (hm p q).1, ?_, fun p q => ?_, j, rfl, by rw [e, hb]⟩
  · have := joinL_len (s := [59, 32]) (k := 60) fun p q => (hm p q).2
    simp at this
    omega
  · rw [e] at q
    obtain ⟨a, ha, hq⟩ := List.mem_flatMap.mp q
    have := (spl_mem p hq).1
    have := (hm a ha).2
    simp at *
    omega
/-- a part behind good jobs, whose first piece makes them bad -/
theorem rj_bad {js : List Jb} {x : List Nat} {rest : List (List Nat)} (hj : ∀ j ∈ js, okJ j) (hg : js = [] ∨ jobsD (.tup (js.map jb)) = true) (hx : ∃ q qs, TL.spl [59, 32] 0 [] x = q :: qs ∧ jobsD (.tup (js.map jb ++ [jobIn q])) = false) (hr : ∀ p ∈ x :: rest, okL p ∧ p.length ≤ 60) (hl : js.length + rest.length ≤ 900) : RJ (.str (tx (TL.joinL [59, 32] (js.map jobL ++ x :: rest)))) (.int (js.length : Nat)) := by
  refine rj_parts (by simp) (fun p hp => ?_) (by simp; omega) ?_
  · rcases List.mem_append.mp hp with hp | hp
    · exact js_ok hj p hp
    · exact hr p hp
  · obtain ⟨q, qs, e, hb⟩ := hx
    rw [List.flatMap_append, flat_js, List.flatMap_cons, e, List.cons_append, rdJ_ok _ 0 [] _ (by
      rcases hg with h | h
      · exact .inl (by rw [h]; rfl)
      · exact .inr (by rw [List.nil_append, map_jobIn]; exact h)), List.nil_append, map_jobIn, rdJ_bad hb]
    simp
theorem okJs_take {js : List Jb} (h : okJs js) (k : Nat) : (∀ j ∈ js.take k, okJ j) ∧ (js.take k = [] ∨ jobsD (.tup ((js.take k).map jb)) = true) := by
  refine ⟨fun j hj => h.1 j (List.mem_of_mem_take hj), ?_⟩
  by_cases h0 : js.take k = []
  · exact .inl h0
  · refine .inr (jobsD_pre (ys := (js.drop k).map jb) ?_ (by simpa using h0))
    rw [← List.map_append, List.take_append_drop]
    exact (okJs_D h).1
theorem spl_job {j : Jb} : TL.spl [59, 32] 0 [] (jobL j) = [jobL j] := spl_free2 jobL_free
theorem minmax {A Du t1 t2 t3 : Int} (h1 : 0 ≤ A ∧ A ≤ 22) (h2 : 0 ≤ Du ∧ Du ≤ 24) (h3 : 0 ≤ t1) (h4 : 0 ≤ t2) (h5 : 0 ≤ t3) : ∃ a d : Nat, (if 22 < A + t1 then 22 else A + t1) = (a : Int) ∧ (if 24 < (if Du + t2 < (a : Int) + 1 + t3 then (a : Int) + 1 + t3 else Du + t2) then 24 else (if Du + t2 < (a : Int) + 1 + t3 then (a : Int) + 1 + t3 else Du + t2)) = (d : Int) ∧ A ≤ a ∧ a ≤ 22 ∧ Du ≤ d ∧ d ≤ 24 ∧ a < d := by
  obtain ⟨a, ha⟩ : ∃ a : Nat, (if 22 < A + t1 then 22 else A + t1) = (a : Int) := ⟨((if 22 < A + t1 then 22 else A + t1) : Int).toNat, by split <;> omega⟩
  refine ⟨a, ((if 24 < (if Du + t2 < (a : Int) + 1 + t3 then (a : Int) + 1 + t3 else Du + t2) then 24 else (if Du + t2 < (a : Int) + 1 + t3 then (a : Int) + 1 + t3 else Du + t2)) : Int).toNat, ha, ?_⟩
  split at ha
  · split <;> split at * <;> omega
  · split <;> split at * <;> omega
theorem four3 {n : Int} : ∃ b : Int, atI [D.int 1, .int 1, .int 2, .int 3] (n % 4) = some (.int b) ∧ 1 ≤ b ∧ b ≤ 3 := by
  have h0 := Int.emod_nonneg n (show (4 : Int) ≠ 0 by decide)
  have h1 := Int.emod_lt_of_pos n (show (0 : Int) < 4 by decide)
  have : n % 4 = 0 ∨ n % 4 = 1 ∨ n % 4 = 2 ∨ n % 4 = 3 := by omega
  rcases this with h | h | h | h <;> rw [h]
  · exact ⟨1, rfl, by decide⟩
  · exact ⟨1, rfl, by decide⟩
  · exact ⟨2, rfl, by decide⟩
  · exact ⟨3, rfl, by decide⟩
def drawJ : CB := forB (nthS 2 c__law_jobs_v2)
theorem drawJ_eq : drawJ = forB (nthS 2 c__law_jobs_v2) := rfl
theorem draw_turn (F : Fe) (h1 : Fn F "_law_take" PTake) (h2 : Fn F "_law_low" PLow) {mo : Int} : ∀ (i : Nat) (lo : Int) (n A Du : Int) (js : List Jb) (x5 : Option W), x5 ≠ some .out → 0 ≤ A ∧ A ≤ 22 → 0 ≤ Du ∧ Du ≤ 24 → (∀ j ∈ js, (okJ j ∧ fz 2 j.w) ∧ (j.a : Int) ≤ A ∧ (j.d : Int) ≤ Du) → chainB (js.map jb) = true → js.length + i ≤ 1000 →
    ∃ (m A' Du' : Int) (ks : List Jb) (y5 : Option W), (∀ j ∈ ks, okJ j ∧ fz 2 j.w) ∧ chainB (ks.map jb) = true ∧ ks.length = js.length + i ∧ forL (turnF [0, 1] [5] false (evB F [0, 1] drawJ)) (rangeD lo i) [some (.lst [.int n]), some (.val (.int mo)), some (.lst (js.map jb)), some (.val (.int A)), some (.val (.int Du)), x5] = some (.nx [some (.lst [.int m]), some (.val (.int mo)), some (.lst (ks.map jb)), some (.val (.int A')), some (.val (.int Du')), y5])
  | 0, lo, n, A, Du, js, x5, _, _, _, hj, hc, _ => ⟨n, A, Du, js, x5, fun j h => (hj j h).1, hc, rfl, rfl⟩
  | i + 1, lo, n, A, Du, js, x5, n5, hA, hD, hj, hc, hl => by
    obtain ⟨s1, e1, p1⟩ := h1
    obtain ⟨s2, e2, p2⟩ := h2
    have t1 := p1 n 4 (by decide) (by decide)
    have t2 := p1 (n / 4) 3 (by decide) (by decide)
    have t3 := p1 (n / 4 / 3) 4 (by decide) (by decide)
    have t4 := p1 (n / 4 / 3 / 4) 30 (by decide) (by decide)
    have t5 := p1 (n / 4 / 3 / 4 / 30) 4 (by decide) (by decide)
    obtain ⟨b, hb, b1, b3⟩ := four3 (n := n / 4 / 3 / 4 / 30)
    have c1 := Int.emod_nonneg n (show (4 : Int) ≠ 0 by decide)
    have c2 := Int.emod_nonneg (n / 4) (show (3 : Int) ≠ 0 by decide)
    have c3 := Int.emod_nonneg (n / 4 / 3) (show (4 : Int) ≠ 0 by decide)
    have c4 := Int.emod_nonneg (n / 4 / 3 / 4) (show (30 : Int) ≠ 0 by decide)
    have c5 := Int.emod_lt_of_pos (n / 4 / 3 / 4) (show (0 : Int) < 30 by decide)
    obtain ⟨a, d, ea, ed, ha, ha2, hd, hd2, had⟩ := minmax (A := A) (Du := Du) hA hD c1 c2 c3
    have lw := p2 (1 + n / 4 / 3 / 4 % 30) b (by omega) (Nat.lt_of_le_of_lt (m := 3) (by omega) (by decide))
    have okw : okJ ⟨a, d, Rat.divInt (1 + n / 4 / 3 / 4 % 30) b⟩ := ⟨had, hd2, divInt_pos (by omega) (by omega), divInt_fz (by decide) (by omega) (by omega)⟩
    have fw : fz 2 (Rat.divInt (1 + n / 4 / 3 / 4 % 30) b) := divInt_fz (by decide) (by omega) (by omega)
    generalize Rat.divInt (1 + n / 4 / 3 / 4 % 30) b = w at lw okw fw
    have mp : (js ++ [(⟨a, d, w⟩ : Jb)]).map jb = js.map jb ++ [.tup [.int a, .int d, nr w]] := by rw [List.map_append]; rfl
    have ap := mApp (xs := js.map jb) (d := .tup [.int a, .int d, nr w]) (by rw [List.length_map]; exact big_line (by omega))
    obtain ⟨m, A', Du', ks, y5, h5, h6, h7, h8⟩ := draw_turn F ⟨s1, e1, p1⟩ ⟨s2, e2, p2⟩ (mo := mo) i (lo + 1) (n / 4 / 3 / 4 / 30 / 4) a d (js ++ [(⟨a, d, w⟩ : Jb)]) (some (.val (.int lo))) (by simp) (by omega) (by omega) (fun j hjm => by
      rcases List.mem_append.mp hjm with hjm | hjm
      · obtain ⟨q1, q2, q3⟩ := hj j hjm
        exact ⟨q1, by omega, by omega⟩
      · rw [List.mem_singleton.mp hjm]
        exact ⟨⟨okw, fw⟩, Int.le_refl _, Int.le_refl _⟩) (by
      rw [mp]
      refine chain_snoc hc fun x hx => ?_
      obtain ⟨j, hjm, rfl⟩ := List.mem_map.mp hx
      obtain ⟨q1, q2, q3⟩ := hj j hjm
      show (j.a : Int) ≤ a ∧ (j.d : Int) ≤ d
      omega) (by simp; omega)
    refine ⟨m, A', Du', ks, y5, h5, h6, by rw [h7]; simp; omega, ?_⟩
    show forL _ (.int lo :: rangeD (lo + 1) i) _ = _
    have step : turnF [0, 1] [5] false (evB F [0, 1] drawJ) (.int lo) [some (.lst [.int n]), some (.val (.int mo)), some (.lst (js.map jb)), some (.val (.int A)), some (.val (.int Du)), x5] = some (.nx [some (.lst [.int (n / 4 / 3 / 4 / 30 / 4)]), some (.val (.int mo)), some (.lst ((js ++ [(⟨a, d, w⟩ : Jb)]).map jb)), some (.val (.int a)), some (.val (.int d)), some (.val (.int lo))]) := by
      rw [mp]
      dsimp only [drawJ, forB, nthS, c__law_jobs_v2]
      simp [-List.map_map, n5, e1, t1, t2, t3, t4, t5, ea, ed, hb, e2, lw, ap]
    rw [forL_cons, step, seqS_nx]
    exact h8
def PDrawJ (s : List W → Option FR) : Prop := ∀ n mo : Int, 1 ≤ mo → mo ≤ 12 → ∃ (m : Int) (js : List Jb), okJs js ∧ (js.length : Int) ≤ mo ∧ (∀ j ∈ js, fz 2 j.w) ∧ s [.lst [.int n], .val (.int mo)] = some (.ret (.val (.tup (js.map jb))) [.lst [.int m], .val (.int mo)])
theorem run_drawJ (F : Fe) (h1 : Fn F "_law_take" PTake) (h2 : Fn F "_law_low" PLow) : PDrawJ (runDef F ⟨2, 6, [0, 1], c__law_jobs_v2⟩) := fun n mo m0 m1 => by
  obtain ⟨s1, e1, p1⟩ := id h1
  have t1 := p1 n mo (by omega) (by omega)
  have b0 := Int.emod_nonneg n (show mo ≠ 0 by omega)
  have b1 := Int.emod_lt_of_pos n (show 0 < mo by omega)
  obtain ⟨k, hk⟩ : ∃ k : Nat, 1 + n % mo = (k : Int) := ⟨(1 + n % mo).toNat, by omega⟩
  have rg : rangeOf [.int (k : Int)] = some (rangeD 0 k) := by rw [rangeOf1' (by omega), Int.toNat_natCast]
  obtain ⟨m, A', Du', js, y5, h5, h6, h7, h8⟩ := draw_turn F h1 h2 (mo := mo) k 0 (n / mo) 0 0 [] none (by simp) (by omega) (by omega) (fun _ h => nomatch h) rfl (by simp; omega)
  simp only [List.length_nil, Nat.zero_add] at h7
  refine ⟨m, js, ⟨fun j hj => (h5 j hj).1, h6, by omega, by omega⟩, by omega, fun j hj => (h5 j hj).2, ?_⟩
  rw [runDef_eq (by rfl)]
  dsimp only [drawJ, forB, nthS, c__law_jobs_v2] at h8
  rw [List.map_nil] at h8
  simp [-List.map_map, c__law_jobs_v2, evS_for, e1, t1, hk, rg, h8]
end Ev

set_option Elab.async false
set_option linter.all false
set_option maxRecDepth 100000
set_option maxHeartbeats 4000000
set_option exponentiation.threshold 10000
namespace Ev
open PySem PySem.Spec PyProof.Rows L2
theorem fold_back : ∀ (r : List Nat) (a : Nat), 0 < a → NumText.AllDigits r → TL.numL (r.foldl (fun acc c => acc * 10 + (c - 48)) a) = TL.numL a ++ r
  | [], a, _, _ => by simp
  | c :: r, a, ha, hd => by
    have hc := hd c List.mem_cons_self
    rw [List.foldl_cons, fold_back r (a * 10 + (c - 48)) (by omega) fun x hx => hd x (List.mem_cons_of_mem _ hx), TL.numL_step (by omega)]
    have e1 : (a * 10 + (c - 48)) / 10 = a := by omega
    have e2 : 48 + (a * 10 + (c - 48)) % 10 = c := by omega
    rw [e1, e2]
    simp
theorem figs_back {l : List Nat} (h : figs l = true) : TL.numL (NumText.digitsVal l) = l := by
  obtain ⟨h1, h2⟩ := figs_digits h
  unfold figs at h
  simp only [Bool.and_eq_true, Bool.or_eq_true, decide_eq_true_eq] at h
  obtain ⟨_, h3⟩ := h
  rcases h3 with rfl | h3
  · exact numL_zero
  · cases l with
    | nil => exact absurd rfl h2
    | cons c r =>
      have hc := h1 c List.mem_cons_self
      have hn : c ≠ 48 := fun z => h3 (by rw [z]; rfl)
      show TL.numL (r.foldl (fun acc c => acc * 10 + (c - 48)) (0 * 10 + (c - 48))) = c :: r
      rw [Nat.zero_mul, Nat.zero_add, fold_back r (c - 48) (by omega) fun x hx => h1 x (List.mem_cons_of_mem _ hx), TL.numL_lt (by omega)]
      rw [show 48 + (c - 48) = c by omega]
      rfl
theorem dv_nat {l : List Nat} (h : figs l = true) : valL l = (NumText.digitsVal l : Nat) := by
  have := figs_strip h
  unfold stripL at this
  unfold valL
  by_cases e : l.take 1 = [45]
  · rw [if_pos e] at this
    have h2 := congrArg List.length this
    rw [List.length_tail] at h2
    obtain ⟨_, h3⟩ := figs_digits h
    cases l with
    | nil => exact absurd rfl h3
    | cons c r => simp at h2
  · rw [if_neg e]
theorem int_back {l : List Nat} (h : figs (stripL l) = true) (h2 : l ≠ [45, 48]) : intL (valL l) = l := by
  by_cases e : l.take 1 = [45]
  · have e2 : l = 45 :: l.tail := by
      cases l with
      | nil => cases e
      | cons c r => simp at e; rw [e]; rfl
    unfold stripL at h
    rw [if_pos e] at h
    have b := figs_back h
    unfold valL
    rw [if_pos e]
    have hpos : 0 < NumText.digitsVal l.tail := by
      rcases Nat.eq_zero_or_pos (NumText.digitsVal l.tail) with z | z
      · rw [z, numL_zero] at b
        exact absurd (by rw [e2, ← b]) h2
      · exact z
    unfold intL
    rw [if_pos (by omega), Int.natAbs_neg, Int.natAbs_natCast, b]
    exact e2.symm
  · unfold stripL at h
    rw [if_neg e] at h
    unfold valL
    rw [if_neg e, intL_nat]
    exact figs_back h
theorem pre_spec {S l : List Nat} (h : TL.pre S l = true) : l = S ++ l.drop S.length := by
  unfold TL.pre at h
  have h : l.take S.length = S := by simpa using h
  conv => lhs; rw [← List.take_append_drop S.length l, h]
theorem par_back {s : List Nat} : ∀ {l acc t b : List Nat}, TL.par s acc l = some (t, b) → acc ++ l = t ++ (s ++ b)
  | [], acc, t, b, h => by cases h
  | c :: r, acc, t, b, h => by
    by_cases e : TL.pre s (c :: r) = true
    · rw [TL.par_hit e] at h
      cases h
      rw [← pre_spec e]
    · have e : TL.pre s (c :: r) = false := by simpa using e
      rw [TL.par_miss e] at h
      rw [← par_back h]
      simp
theorem spl_ne (S : List Nat) : ∀ (k : Nat) (acc l : List Nat), TL.spl S k acc l ≠ []
  | k, acc, [] => by rw [TL.spl_nil]; simp
  | 0, acc, c :: r => by
    by_cases e : TL.pre S (c :: r) = true
    · rw [TL.spl_hit e]; simp
    · have e : TL.pre S (c :: r) = false := by simpa using e
      rw [TL.spl_miss e]
      exact spl_ne S 0 _ r
  | k + 1, acc, c :: r => spl_ne S k acc r
theorem joinL_cons {S a : List Nat} {ps : List (List Nat)} (h : ps ≠ []) : TL.joinL S (a :: ps) = a ++ (S ++ TL.joinL S ps) := by
  cases ps with
  | nil => exact absurd rfl h
  | cons p r => rfl
theorem join_spl {S : List Nat} (hS : S ≠ []) : ∀ (n : Nat) (l acc : List Nat), l.length ≤ n → TL.joinL S (TL.spl S 0 acc l) = acc ++ l
  | _, [], acc, _ => by
    rw [TL.spl_nil, List.append_nil]
    rfl
  | 0, _ :: _, _, h => by simp at h
  | n + 1, c :: r, acc, h => by
    simp only [List.length_cons] at h
    by_cases e : TL.pre S (c :: r) = true
    · rw [TL.spl_hit e, TL.spl_pass, joinL_cons (spl_ne _ _ _ _), join_spl hS n _ [] (by rw [List.length_drop]; omega), List.nil_append]
      have h2 := pre_spec e
      have h3 : S.length - 1 + 1 = S.length := by
        have := List.length_pos_iff.mpr hS
        omega
      have h4 : (c :: r).drop S.length = r.drop (S.length - 1) := by rw [← h3]; rfl
      rw [h4] at h2
      rw [← h2]
    · have e : TL.pre S (c :: r) = false := by simpa using e
      rw [TL.spl_miss e, join_spl hS n r _ (by omega)]
      simp
theorem glue_back {S l : List Nat} (hS : S ≠ []) : TL.joinL S (TL.spl S 0 [] l) = l := by
  have := join_spl hS _ l [] (Nat.le_refl _)
  rwa [List.nil_append] at this
/-- cut at one, as partition cuts -/
theorem spl_par {S : List Nat} (hS : S ≠ []) : ∀ (l acc : List Nat), TL.spl S 0 acc l = match TL.par S acc l with
    | none => [acc ++ l]
    | some (t, b) => t :: TL.spl S 0 [] b
  | [], acc => by
    rw [TL.spl_nil, List.append_nil]
    rfl
  | c :: r, acc => by
    by_cases e : TL.pre S (c :: r) = true
    · rw [TL.spl_hit e, TL.par_hit e, TL.spl_pass]
      dsimp only
      congr 2
      cases S with
      | nil => exact absurd rfl hS
      | cons s S => rfl
    · have e : TL.pre S (c :: r) = false := by simpa using e
      rw [TL.spl_miss e, TL.par_miss e, spl_par hS r (acc ++ [c])]
      cases TL.par S (acc ++ [c]) r with
      | none => simp
      | some q => rfl
theorem ten_lt {k m : Nat} (h : k ≤ m) : 10 ^ k ≤ 10 ^ m := Nat.pow_le_pow_right (by decide) h
theorem numIn_back {l : List Nat} {q : Int × Int} (h : numIn l = some q) (hl : l.length ≤ 400) : ∃ r : Rat, prP q = nr r ∧ ratL r = l ∧ szR 1900 r := by
  have big : 10 ^ 400 < 2 ^ 1900 := by decide
  have key : ∀ (r : Rat), prP q = nr r → ratL r = l → q.1.natAbs ≤ 10 ^ 400 → q.2.natAbs ≤ 10 ^ 400 → ∃ r : Rat, prP q = nr r ∧ ratL r = l ∧ szR 1900 r := fun r h1 h2 h3 h4 => by
    refine ⟨r, h1, h2, ?_⟩
    have e1 : q.1 = r.num := by unfold prP nr at h1; injection h1 with h1; injection h1 with h1 _; injection h1
    have e2 : q.2 = (r.den : Int) := by unfold prP nr at h1; injection h1 with h1; injection h1 with _ h1; injection h1 with h1 _; injection h1
    rw [e1] at h3
    rw [e2, Int.natAbs_natCast] at h4
    exact ⟨Nat.lt_of_le_of_lt h3 big, Nat.lt_of_le_of_lt h4 big⟩
  unfold numIn at h
  cases hp : TL.par [47] [] l with
  | none =>
    rw [hp] at h
    dsimp only at h
    split at h
    · rename_i hc
      cases h
      simp only [Bool.and_eq_true, decide_eq_true_eq] at hc
      have e : nr ((valL l : Int) : Rat) = .tup [.int (valL l), .int 1] := rfl
      refine key ((valL l : Int) : Rat) rfl ?_ (Nat.le_of_lt (Nat.lt_of_lt_of_le (valL_lt hc.1) (ten_lt hl))) (Nat.one_le_pow _ _ (by decide))
      show (if (1 : Nat) = 1 then intL (valL l) else _) = l
      rw [if_pos rfl]
      exact int_back hc.1 hc.2
    · cases h
  | some tb =>
    obtain ⟨t, b⟩ := tb
    obtain ⟨lt, lb⟩ := par_len hp
    have hb := par_back hp
    simp only [List.length_nil, Nat.zero_add, List.nil_append] at lt hb
    rw [hp] at h
    dsimp only at h
    split at h
    · rename_i hc
      cases h
      simp only [Bool.and_eq_true, decide_eq_true_eq] at hc
      obtain ⟨⟨⟨⟨h1, h2⟩, h3⟩, h4⟩, h5⟩ := hc
      have hn : numD (.tup [.int (valL t), .int (valL b)]) = true := h5
      have e := numD_nr hn
      have e3 : ratD (.tup [.int (valL t), .int (valL b)]) = Rat.divInt (valL t) (valL b) := rfl
      rw [e3] at e
      generalize Rat.divInt (valL t) (valL b) = r at e
      have n1 : valL t = r.num := by unfold nr at e; injection e with h1; injection h1 with h1 _; injection h1
      have n2 : valL b = (r.den : Int) := by unfold nr at e; injection e with h1; injection h1 with _ h1; injection h1 with h1 _; injection h1
      refine key r e ?_ (Nat.le_of_lt (Nat.lt_of_lt_of_le (valL_lt h1) (ten_lt (by omega)))) (Nat.le_of_lt (Nat.lt_of_lt_of_le (valL_lt (by rw [figs_strip h3]; exact h3)) (ten_lt (by omega))))
      have b1 := figs_back h3
      have b2 := dv_nat h3
      have hd : r.den = NumText.digitsVal b := by omega
      have hd1 : r.den ≠ 1 := fun z => h4 (by rw [← b1, ← hd, z, numL_one])
      unfold ratL
      rw [if_neg hd1, ← n1, int_back h1 h2, hd, b1, hb]
      rfl
    · cases h
theorem placeIn_back {l : List Nat} {d : D} (h : placeIn l = some d) (hl : l.length ≤ 400) : ∃ p : Pl, d = pl p ∧ placeL p = l ∧ szR 1900 p.1 ∧ szR 1900 p.2 ∧ p.1 ≤ p.2 := by
  unfold placeIn at h
  cases hp : TL.par [46, 46] [] l with
  | none =>
    rw [hp] at h
    dsimp only at h
    obtain ⟨q, hq, rfl⟩ := Option.map_eq_some_iff.mp h
    obtain ⟨r, h1, h2, h3⟩ := numIn_back hq hl
    refine ⟨(r, r), by rw [h1]; rfl, ?_, h3, h3, Rat.le_refl⟩
    unfold placeL
    rw [if_pos rfl]
    exact h2
  | some tb =>
    obtain ⟨t, b⟩ := tb
    obtain ⟨lt, lb⟩ := par_len hp
    have hb := par_back hp
    simp only [List.length_nil, Nat.zero_add, List.nil_append] at lt hb
    rw [hp] at h
    dsimp only at h
    cases hn1 : numIn t with
    | none => rw [hn1] at h; cases h
    | some p =>
      cases hn2 : numIn b with
      | none => rw [hn1, hn2] at h; cases h
      | some q =>
        rw [hn1, hn2] at h
        dsimp only at h
        split at h
        · rename_i hlt
          cases h
          obtain ⟨r1, k1, k2, k3⟩ := numIn_back hn1 (by omega)
          obtain ⟨r2, m1, m2, m3⟩ := numIn_back hn2 (by omega)
          have pr : ∀ {q : Int × Int} {r : Rat}, prP q = nr r → q.1 = r.num ∧ q.2 = (r.den : Int) := fun {q r} h1 => ⟨by unfold prP nr at h1; injection h1 with h1; injection h1 with h1 _; injection h1, by unfold prP nr at h1; injection h1 with h1; injection h1 with _ h1; injection h1 with h1 _; injection h1⟩
          obtain ⟨a1, a2⟩ := pr k1
          obtain ⟨b1, b2⟩ := pr m1
          rw [a1, a2, b1, b2] at hlt
          have hlt2 : r1 < r2 := (Rat.lt_iff _ _).mpr hlt
          refine ⟨(r1, r2), by rw [k1, m1]; rfl, ?_, k3, m3, Rat.le_of_lt hlt2⟩
          unfold placeL
          rw [if_neg (Rat.ne_of_lt hlt2), k2, m2, hb]
          simp
        · cases h
theorem isJob_jb' {d : D} (h : isJob d = true) : ∃ j : Jb, d = jb j ∧ j.a < j.d ∧ j.d ≤ 24 ∧ 0 < j.w := by
  obtain ⟨a, b, w, rfl⟩ := isJob_form h
  have h : (decide (0 ≤ a) && decide (a < b) && decide (b ≤ 24) && numD w && decide (0 < ratD w)) = true := h
  simp only [Bool.and_eq_true, decide_eq_true_eq] at h
  obtain ⟨⟨⟨⟨h1, h2⟩, h3⟩, h4⟩, h5⟩ := h
  have e := numD_nr h4
  refine ⟨⟨a.toNat, b.toNat, ratD w⟩, ?_, ?_, ?_, h5⟩
  · unfold jb
    dsimp only
    rw [Int.toNat_of_nonneg h1, Int.toNat_of_nonneg (by omega), ← e]
  · dsimp only; omega
  · dsimp only; omega
theorem jobIn_back {l : List Nat} (h : isJob (jobIn l) = true) (hl : l.length ≤ 60) : ∃ j : Jb, jobIn l = jb j ∧ jobL j = l ∧ j.a < j.d ∧ j.d ≤ 24 ∧ 0 < j.w ∧ szR 1900 j.w := by
  obtain ⟨j, e, h1, h2, h3⟩ := isJob_jb' h
  refine ⟨j, e, ?_⟩
  have gb := glue_back (S := [32]) (l := l) (by simp)
  have hm : ∀ p ∈ TL.spl [32] 0 [] l, p.length ≤ 60 := fun p q => by
    have := (spl_mem p q).1
    simp at this
    omega
  unfold jobIn at e
  split at e
  · rename_i a b c es
    rw [es] at gb hm
    split at e
    · rename_i hf
      obtain ⟨ha, hb⟩ := Bool.and_eq_true_iff.mp hf
      unfold jb at e
      injection e with e
      injection e with e1 e
      injection e with e2 e
      injection e with e3 _
      injection e1 with e1
      injection e2 with e2
      cases hn : numIn c with
      | none =>
        rw [hn] at e3
        cases e3
      | some q =>
        rw [hn] at e3
        obtain ⟨r, k1, k2, k3⟩ := numIn_back hn (by have := hm c (by simp); omega)
        have e3 : prP q = nr j.w := e3
        rw [k1] at e3
        have er := nr_inj e3
        subst er
        refine ⟨?_, h1, h2, h3, k3⟩
        have fa := figs_back ha
        have fb := figs_back hb
        have va := dv_nat ha
        have vb := dv_nat hb
        unfold jobL
        rw [show j.a = NumText.digitsVal a by omega, show j.d = NumText.digitsVal b by omega, fa, fb, k2]
        exact gb
    · cases e
  · cases e
theorem rdRow_back : ∀ (ps : List (List Nat)) (k : Nat) (acc qs : List (Int × Int)), rdRow k acc ps = .inr qs → (∀ p ∈ ps, p.length ≤ 400) → ∃ rs : List Rat, qs.map prP = acc.map prP ++ rs.map nr ∧ rs.map ratL = ps ∧ (∀ r ∈ rs, szR 1900 r) ∧ (k ≤ 25 → k + rs.length ≤ 25)
  | [], k, acc, qs, h, _ => by
    cases h
    exact ⟨[], by simp, rfl, by simp, fun h => h⟩
  | p :: ps, k, acc, qs, h, hp => by
    unfold rdRow at h
    cases hn : numIn p with
    | none => rw [hn] at h; cases h
    | some q =>
      rw [hn] at h
      dsimp only at h
      split at h
      · cases h
      · rename_i hk
        obtain ⟨rs, h1, h2, h3, h4⟩ := rdRow_back ps _ _ _ h fun x hx => hp x (List.mem_cons_of_mem _ hx)
        obtain ⟨r, k1, k2, k3⟩ := numIn_back hn (hp p List.mem_cons_self)
        refine ⟨r :: rs, ?_, by rw [List.map_cons, k2, h2], fun x hx => ?_, fun hk2 => ?_⟩
        · rw [h1, List.map_append, List.map_cons, List.map_nil, List.map_cons, k1]
          simp
        · rcases List.mem_cons.mp hx with rfl | hx
          · exact k3
          · exact h3 x hx
        · have := h4 (by omega)
          rw [List.length_cons]
          omega
def szP (k : Nat) (p : Pl) : Prop := szR k p.1 ∧ szR k p.2 ∧ p.1 ≤ p.2
theorem rdG_back : ∀ (ps : List (List Nat)) (k : Nat) (acc ds : List D), rdG placeIn k acc ps = .inr ds → (∀ p ∈ ps, p.length ≤ 400) → ∃ rs : List Pl, ds = acc ++ rs.map pl ∧ rs.map placeL = ps ∧ (∀ r ∈ rs, szP 1900 r) ∧ (k ≤ 25 → k + rs.length ≤ 25)
  | [], k, acc, qs, h, _ => by
    cases h
    exact ⟨[], by simp, rfl, by simp, fun h => h⟩
  | p :: ps, k, acc, qs, h, hp => by
    unfold rdG at h
    cases hn : placeIn p with
    | none => rw [hn] at h; cases h
    | some q =>
      rw [hn] at h
      dsimp only at h
      split at h
      · cases h
      · rename_i hk
        obtain ⟨rs, h1, h2, h3, h4⟩ := rdG_back ps _ _ _ h fun x hx => hp x (List.mem_cons_of_mem _ hx)
        obtain ⟨r, k1, k2, k3⟩ := placeIn_back hn (hp p List.mem_cons_self)
        refine ⟨r :: rs, ?_, by rw [List.map_cons, k2, h2], fun x hx => ?_, fun hk2 => ?_⟩
        · rw [h1, List.map_cons, k1]
          simp
        · rcases List.mem_cons.mp hx with rfl | hx
          · exact k3
          · exact h3 x hx
        · have := h4 (by omega)
          rw [List.length_cons]
          omega
def okW (j : Jb) : Prop := j.a < j.d ∧ j.d ≤ 24 ∧ 0 < j.w ∧ szR 1900 j.w
theorem rdJ_back : ∀ (ps : List (List Nat)) (k : Nat) (acc ds : List D), rdJ k acc ps = .inr ds → (∀ p ∈ ps, p.length ≤ 60) → ∃ js : List Jb, ds = acc ++ js.map jb ∧ js.map jobL = ps ∧ (∀ j ∈ js, okW j)
  | [], k, acc, qs, h, _ => by
    cases h
    exact ⟨[], by simp, rfl, fun _ h => nomatch h⟩
  | p :: ps, k, acc, qs, h, hp => by
    unfold rdJ at h
    split at h
    · rename_i hj
      obtain ⟨js, h1, h2, h3⟩ := rdJ_back ps _ _ _ h fun x hx => hp x (List.mem_cons_of_mem _ hx)
      have hi : isJob (jobIn p) = true := (jobsD_iff.mp hj).2.2.1 _ (by simp)
      obtain ⟨j, k1, k2, k3⟩ := jobIn_back hi (hp p List.mem_cons_self)
      refine ⟨j :: js, ?_, by rw [List.map_cons, k2, h2], fun x hx => ?_⟩
      · rw [h1, List.map_cons, k1]
        simp
      · rcases List.mem_cons.mp hx with rfl | hx
        · exact k3
        · exact h3 x hx
    · cases h
end Ev

set_option Elab.async false
set_option linter.all false
set_option maxRecDepth 100000
set_option maxHeartbeats 4000000
set_option exponentiation.threshold 10000
namespace Ev
open PySem PySem.Spec PyProof.Rows L2
theorem run_figures (F : Fe) : PFigs (runDef F ⟨1, 2, [0], c__law_figures⟩) := fun l h hl => by
  rw [runDef_eq (by rfl)]
  have e0 := eqD_tx (b := []) h okL_nil
  have e1 := eqD_tx (b := [48]) h (okL_lit rfl)
  have ec := endL_map (tg := [1]) (tup := false) (c := evE F (.k (.bl true))) (e := evE F (.prim .inn (.cons (.v 1) (.cons (.k (.str "0123456789")) .nil)))) (ds := l.map fun c => .str (tx [c])) (bk := [(.val (.str (tx l)), none)]) (g1 := [some (.val (.str (tx l))), none]) (g2 := [some (.val (.str (tx l))), none]) (fun d => match d with
    | .str x => .bl (dig (x.cps.getD 0 0))
    | d => d) (by simp) (fun d hd => by
      obtain ⟨c, _, rfl⟩ := List.mem_map.mp hd
      rw [turnC_eq]
      simp [fig_in]
      rfl) (by rw [List.length_map]; exact hl)
  have ed : (l.map fun c => D.str (tx [c])).map (fun d => match d with
    | .str x => .bl (dig (x.cps.getD 0 0))
    | d => d) = l.map fun c => D.bl (dig c) := by
    rw [List.map_map]
    rfl
  rw [ed] at ec
  cases l with
  | nil => simp [c__law_figures, sl_e, e0, figs]
  | cons c r =>
    have ne : ¬ (c :: r = []) := by simp
    have e2 := eqD_tx (a := [c]) (b := [48]) (okL_cons.mpr ⟨(okL_cons.mp h).1, okL_nil⟩) (okL_lit rfl)
    have pi := pItem_s (l := c :: r) (i := 0) (by omega)
    simp only [atI0, ofO_some] at pi
    have pa := pAll_map dig (c :: r)
    have hf : figs (c :: r) = ((c :: r).all dig && (decide (c :: r = [48]) || !decide ([c] = [48]))) := by
      unfold figs
      simp
    rw [hf]
    generalize hA : (c :: r).all dig = A at pa ⊢
    generalize hB : decide (c :: r = [48]) = B at e1 ⊢
    generalize hC : decide ([c] = [48]) = C at e2 ⊢
    simp only [decide_eq_false ne] at e0
    generalize hl0 : c :: r = l0 at *
    cases A <;> cases B <;> simp [c__law_figures, sl_e, sl_0, e0, e1, ec, pa, pi, e2]
theorem pInt_bl {b : Bool} : pInt (.bl b) = some (.val (.int (if b = true then 1 else 0))) := rfl
theorem slFrom0 {l : List Nat} (hl : l.length ≤ 640) : pSlice (some 0) none (.str (tx l)) = some (.val (.str (tx l))) := by
  rw [pSlice_s (by rw [tx_len]; exact big_line (by omega))]
  have := cut_from (l := l) (n := 0)
  rw [List.drop_zero] at this
  exact congrArg (fun x => some (W.val (.str x))) this
theorem eqD_ii (a b c d : Int) : eqD (.tup [.int a, .int b]) (.tup [.int c, .int d]) = some (decide (a = c ∧ b = d)) := by
  have s : ∀ a b : Int, SeqAt.shaped (.tuple [.int a, .int b]) = true := fun a b => by simp [SeqAt.shaped, PyData.canLay0, PyData.canLayAll0, PyData.depth, PyData.depthAll]
  show (if SeqAt.shaped (.tuple [.int a, .int b]) = true ∧ SeqAt.shaped (.tuple [.int c, .int d]) = true then some (PyData.eqv (.tuple [.int a, .int b]) (.tuple [.int c, .int d])) else none) = _
  rw [if_pos ⟨s a b, s c d⟩]
  congr 1
  simp only [PyData.eqv, PyData.eqvAll]
  by_cases h1 : a = c <;> by_cases h2 : b = d <;> simp [h1, h2]
theorem low_eq {a b : Int} (hb : 2 ≤ b) : eqD (nr (Rat.divInt a b)) (.tup [.int a, .int b]) = some (lowB a b) := by
  have e : nr (Rat.divInt a b) = .tup [.int (Rat.divInt a b).num, .int ((Rat.divInt a b).den : Int)] := rfl
  rw [e, eqD_ii]
  congr 1
  have key : ((Rat.divInt a b).num = a ∧ ((Rat.divInt a b).den : Int) = b) ↔ lowB a b = true := by
    constructor
    · rintro ⟨h1, h2⟩
      have h3 := numD_of (Rat.divInt a b)
      rw [e, h1, h2] at h3
      exact h3
    · intro h
      have h3 := numD_nr (d := .tup [.int a, .int b]) h
      have h4 : ratD (.tup [.int a, .int b]) = Rat.divInt a b := rfl
      rw [h4, e] at h3
      injection h3 with h3
      injection h3 with h5 h3
      injection h3 with h6 _
      injection h5 with h5
      injection h6 with h6
      exact ⟨h5.symm, h6.symm⟩
  cases hl : lowB a b with
  | true => exact decide_eq_true (key.mpr hl)
  | false => exact decide_eq_false fun z => by rw [key.mp z] at hl; cases hl
theorem figs_no {l : List Nat} {c : Nat} (hc : c ∈ l) (h : c < 48 ∨ 57 < c) : figs l = false := by
  cases hf : figs l with
  | false => rfl
  | true =>
    have := (figs_digits hf).1 c hc
    omega
theorem fig_one {b : List Nat} (hf : figs b = true) : decide (valL b < 2) = (decide (b = [49]) || decide (valL b = 0)) := by
  have hb := figs_back hf
  have hv := dv_nat hf
  by_cases h1 : b = [49]
  · subst h1
    decide
  · have hn1 : NumText.digitsVal b ≠ 1 := fun z => h1 (by rw [← hb, z, numL_one])
    by_cases h0 : valL b = 0
    · simp [h0]
    · simp [h0, h1]
      omega
theorem run_number_of (F : Fe) (h1 : Fn F "_law_figures" PFigs) (h2 : Fn F "_law_low" PLow) : PNumIn (runDef F ⟨1, 5, [0], c__law_number_of⟩) := by
  obtain ⟨s1, h1, p1⟩ := h1
  obtain ⟨s2, h2, p2⟩ := h2
  intro l hk hl
  rw [runDef_eq (by rfl)]
  have sp := pSplit_tx (l := l) (s := [47]) (by simp) rfl (by omega)
  rw [spl_par (by simp)] at sp
  cases hpar : TL.par [47] [] l with
  | none =>
    rw [hpar] at sp
    dsimp only at sp
    rw [List.nil_append, List.map_cons, List.map_nil] at sp
    have q1 := slTo1 hl
    have q2 := slFrom1 hl
    have q3 := slFrom0 hl
    have e1 := eqD_tx (b := [45]) (okL_take 1 hk) (okL_lit rfl)
    have e2 := eqD_tx (b := [45, 48]) hk (okL_lit rfl)
    have f1 := p1 _ (stripL_ok hk) (Nat.le_trans stripL_len (by omega))
    unfold numIn
    rw [hpar]
    dsimp only
    have pi := fun h => pInt_tx (l := l) h hl
    generalize hA : figs (stripL l) = A at f1 pi ⊢
    generalize hB : decide (l = [45, 48]) = B at e2
    have hB' : decide (l ≠ [45, 48]) = !B := by rw [← hB]; simp
    unfold stripL at f1
    by_cases hs : l.take 1 = [45]
    · rw [if_pos hs] at f1
      rw [hs] at q1
      simp only [decide_eq_true hs] at e1
      rw [hs] at e1
      rw [hB']
      cases A <;> cases B <;> simp [c__law_number_of, sl_str, sl_e, sl_m, sl_m0, sp, q1, q2, e1, e2, pInt_bl, h1, f1, pi, prD]
    · rw [if_neg hs] at f1
      simp only [decide_eq_false hs] at e1
      rw [hB']
      cases A <;> cases B <;> simp [c__law_number_of, sl_str, sl_e, sl_m, sl_m0, sp, q1, q3, e1, e2, pInt_bl, h1, f1, pi, prD]
  | some q =>
    obtain ⟨t, b⟩ := q
    rw [hpar] at sp
    dsimp only at sp
    obtain ⟨lt, lb⟩ := par_len hpar
    obtain ⟨mt, mb⟩ := par_mem hpar
    simp only [List.length_nil, Nat.zero_add] at lt
    have ht : okL t := fun c hc => (mt c hc).elim (fun h => nomatch h) (hk c)
    have hb : okL b := fun c hc => hk c (mb c hc)
    have hlt : t.length ≤ 640 := by omega
    have hlb : b.length ≤ 640 := by omega
    have q1 := slTo1 hlt
    have q2 := slFrom1 hlt
    have q3 := slFrom0 hlt
    have e1 := eqD_tx (b := [45]) (okL_take 1 ht) (okL_lit rfl)
    have e2 := eqD_tx (b := [45, 48]) ht (okL_lit rfl)
    have f1 := p1 _ (stripL_ok ht) (Nat.le_trans stripL_len (by omega))
    have f2 := p1 _ hb (by omega)
    unfold numIn
    rw [hpar]
    dsimp only
    rw [spl_par (by simp)] at sp
    cases hpb : TL.par [47] [] b with
    | some q =>
      obtain ⟨t2, b2⟩ := q
      have hbb := par_back hpb
      rw [List.nil_append] at hbb
      have hfb : figs b = false := figs_no (c := 47) (by rw [hbb]; simp) (by omega)
      rw [hpb] at sp
      dsimp only at sp
      obtain ⟨x, xs, hx⟩ := List.exists_cons_of_ne_nil (spl_ne [47] 0 [] b2)
      rw [hx] at sp
      simp only [List.map_cons] at sp
      have hlen : (2 : Int) < ((xs.map fun p => D.str (tx p)).length : Int) + 1 + 1 + 1 := by omega
      rw [hfb, Bool.and_false, Bool.false_and, Bool.false_and, if_neg (by simp)]
      by_cases hs : t.take 1 = [45]
      · rw [hs] at q1
        simp only [decide_eq_true hs] at e1
        rw [hs] at e1
        simp [-List.length_map, c__law_number_of, sl_str, sl_m, sp, q1, q2, e1, pInt_bl, prD, hlen]
      · simp only [decide_eq_false hs] at e1
        simp [-List.length_map, c__law_number_of, sl_str, sl_m, sp, q1, q3, e1, pInt_bl, prD, hlen]
    | none =>
      rw [hpb] at sp
      dsimp only at sp
      rw [List.nil_append] at sp
      simp only [List.map_cons, List.map_nil] at sp
      have pi := fun h => pInt_tx (l := t) h hlt
      have pj := fun h : figs b = true => pInt_tx (l := b) (by rw [figs_strip h]; exact h) hlb
      have f3 := fun h : figs b = true => fig_one h
      have f4 : figs b = true → 0 ≤ valL b := fun h => by rw [dv_nat h]; omega
      have f5 : figs b = true → (valL b).natAbs < 2 ^ 8000 := fun h => Nat.lt_of_lt_of_le (valL_lt (by rw [figs_strip h]; exact h)) (Nat.le_trans (Nat.pow_le_pow_right (by decide) hlb) (Nat.le_trans (ten_two 640) (Nat.pow_le_pow_right (by decide) (by decide))))
      have f6 : valL b = 0 → lowB (valL t) (valL b) = false := fun h => by rw [h]; unfold lowB; simp
      generalize hA : figs (stripL t) = A at f1 pi ⊢
      generalize hB : decide (t = [45, 48]) = B at e2
      have hB' : decide (t ≠ [45, 48]) = !B := by rw [← hB]; simp
      have hD' : decide (b ≠ [49]) = !decide (b = [49]) := by simp
      rw [hB', hD']
      unfold stripL at f1
      have fin : (if (A && !B && figs b && !decide (b = [49]) && lowB (valL t) (valL b)) = true then some (valL t, valL b) else none) = if A = true ∧ B = false ∧ figs b = true ∧ ¬ valL b < 2 ∧ lowB (valL t) (valL b) = true then some (valL t, valL b) else none := by
        cases A <;> cases B <;> simp
        by_cases hfb : figs b = true
        · have := f3 hfb
          by_cases h0 : valL b = 0
          · have := f6 h0
            simp [this]
          · by_cases h49 : b = [49]
            · have h2 : valL b < 2 := by
                rw [h49]
                decide
              simp [h49]
              intro _ h3
              rw [h49] at h2
              omega
            · have h2 : ¬ valL b < 2 := by
                intro z
                have := f3 hfb
                simp [h0, h49] at this
                omega
              have h3 : 2 ≤ valL b := by omega
              simp [h49, hfb, h3]
        · simp [hfb]
      rw [fin]
      by_cases hv : figs b = true ∧ 2 ≤ valL b
      · obtain ⟨hfb, hv⟩ := hv
        have pl := p2 (valL t) (valL b) (by omega) (f5 hfb)
        have el := low_eq (a := valL t) hv
        have pj := pj hfb
        rw [hfb] at f2 ⊢
        have hv2 : ¬ valL b < 2 := by omega
        generalize hE : lowB (valL t) (valL b) = E at el ⊢
        by_cases hs : t.take 1 = [45]
        · rw [if_pos hs] at f1
          rw [hs] at q1
          simp only [decide_eq_true hs] at e1
          rw [hs] at e1
          cases A <;> cases B <;> cases E <;> simp [c__law_number_of, sl_str, sl_m, sl_m0, sp, q1, q2, e1, e2, pInt_bl, h1, h2, f1, f2, pi, pj, hv, hv2, pl, el, prD]
        · rw [if_neg hs] at f1
          simp only [decide_eq_false hs] at e1
          cases A <;> cases B <;> cases E <;> simp [c__law_number_of, sl_str, sl_m, sl_m0, sp, q1, q3, e1, e2, pInt_bl, h1, h2, f1, f2, pi, pj, hv, hv2, pl, el, prD]
      · have hno : ¬ (A = true ∧ B = false ∧ figs b = true ∧ ¬ valL b < 2 ∧ lowB (valL t) (valL b) = true) := fun ⟨_, _, z1, z2, _⟩ => hv ⟨z1, by omega⟩
        rw [if_neg hno]
        cases hfb : figs b with
        | false =>
          rw [hfb] at f2
          by_cases hs : t.take 1 = [45]
          · rw [if_pos hs] at f1
            rw [hs] at q1
            simp only [decide_eq_true hs] at e1
            rw [hs] at e1
            cases A <;> cases B <;> simp [c__law_number_of, sl_str, sl_m, sl_m0, sp, q1, q2, e1, e2, pInt_bl, h1, h2, f1, f2, pi, prD]
          · rw [if_neg hs] at f1
            simp only [decide_eq_false hs] at e1
            cases A <;> cases B <;> simp [c__law_number_of, sl_str, sl_m, sl_m0, sp, q1, q3, e1, e2, pInt_bl, h1, h2, f1, f2, pi, prD]
        | true =>
          have pj := pj hfb
          rw [hfb] at f2
          have hv2 : valL b < 2 := by
            by_cases z : valL b < 2
            · exact z
            · exact absurd ⟨hfb, by omega⟩ hv
          by_cases hs : t.take 1 = [45]
          · rw [if_pos hs] at f1
            rw [hs] at q1
            simp only [decide_eq_true hs] at e1
            rw [hs] at e1
            cases A <;> cases B <;> simp [c__law_number_of, sl_str, sl_m, sl_m0, sp, q1, q2, e1, e2, pInt_bl, h1, h2, f1, f2, pi, pj, hv2, prD]
          · rw [if_neg hs] at f1
            simp only [decide_eq_false hs] at e1
            cases A <;> cases B <;> simp [c__law_number_of, sl_str, sl_m, sl_m0, sp, q1, q3, e1, e2, pInt_bl, h1, h2, f1, f2, pi, pj, hv2, prD]
end Ev

set_option Elab.async false
set_option linter.all false
set_option maxRecDepth 100000
set_option maxHeartbeats 4000000
set_option exponentiation.threshold 10000
namespace Ev
open PySem PySem.Spec PyProof.Rows L2
def numP : Option (Int × Int) → PyData
  | none => .none
  | some (a, b) => .tuple [.int a, .int b]
theorem toP_num (o : Option (Int × Int)) : (prD o).toP = some (numP o) := by
  cases o with
  | none => rfl
  | some q => rfl
theorem toPs_num : ∀ os : List (Option (Int × Int)), D.toPs (os.map prD) = some (os.map numP)
  | [] => rfl
  | o :: os => by
    show (match (prD o).toP, D.toPs (os.map prD) with
      | some a, some b => some (a :: b)
      | _, _ => none) = _
    rw [toPs_num os, toP_num]
    rfl
theorem lay_num : ∀ os : List (Option (Int × Int)), PyData.canLayAll0 (os.map numP) = true
  | [] => rfl
  | o :: os => by
    show (PyData.canLay0 (numP o) && PyData.canLayAll0 (os.map numP)) = true
    rw [lay_num os]
    cases o <;> rfl
theorem depth_num (os : List (Option (Int × Int))) : (PyData.list (os.map numP)).depth ≤ 64 := by
  have : ∀ os : List (Option (Int × Int)), PyData.depthAll (os.map numP) ≤ 10 := by
    intro os
    induction os with
    | nil => simp [PyData.depthAll]
    | cons o os ih =>
      simp only [List.map_cons, PyData.depthAll]
      have : (numP o).depth ≤ 10 := by cases o <;> simp [numP, PyData.depth, PyData.depthAll]
      omega
  have := this os
  simp only [PyData.depth]
  omega
theorem any_non : ∀ os : List (Option (Int × Int)), ((os.map numP).any fun z => PyData.eqv z .none) = os.any (·.isNone)
  | [] => rfl
  | o :: os => by
    rw [List.map_cons, List.any_cons, List.any_cons, any_non os]
    congr 1
    cases o with
    | none => rfl
    | some q => rfl
theorem flat_non : ∀ os : List (Option (Int × Int)), (os.map prD).all flatD = true → ((os.map prD).any fun y => eqF y .non) = os.any (·.isNone)
  | [], _ => rfl
  | o :: os, h => by
    rw [List.map_cons, List.all_cons, Bool.and_eq_true] at h
    rw [List.map_cons, List.any_cons, List.any_cons, flat_non os h.2]
    congr 1
    cases o with
    | none => rfl
    | some q => exact absurd h.1 (by simp [prD, flatD])
theorem pIn_non (os : List (Option (Int × Int))) : pIn .non (.lst (os.map prD)) = some (os.any (·.isNone)) := by
  show (if flatD .non = true ∧ (os.map prD).all flatD = true then some ((os.map prD).any fun y => eqF y .non) else pInX .non (os.map prD)) = _
  by_cases h : flatD .non = true ∧ (os.map prD).all flatD = true
  · rw [if_pos h, flat_non os h.2]
  · rw [if_neg h]
    unfold pInX
    rw [toPs_num]
    show (if SeqAt.shaped .none = true ∧ SeqAt.shaped (.list (os.map numP)) = true then some ((os.map numP).any fun z => PyData.eqv z .none) else none) = _
    rw [if_pos ⟨rfl, by
      unfold SeqAt.shaped
      rw [Bool.and_eq_true]
      exact ⟨lay_num os, decide_eq_true (depth_num os)⟩⟩, any_non]
def PPartS (f : List Nat → Option D) (s : List W → Option FR) : Prop := ∀ l, okL l → l.length ≤ 400 → s [.val (.str (tx l))] = some (.ret (.val (optD (f l))) [.val (.str (tx l))])
theorem numIn_dot {l : List Nat} (h : 46 ∈ l) (hl : l.length ≤ 400) : numIn l = none := by
  cases hn : numIn l with
  | none => rfl
  | some q =>
    obtain ⟨r, _, h2, _⟩ := numIn_back hn hl
    rw [← h2] at h
    exact absurd h (ratL_free (by omega))
theorem run_place_of (F : Fe) (h1 : Fn F "_law_number_of" PNumIn) (h2 : Fn F "_law_under" PLess) : PPartS placeIn (runDef F ⟨1, 3, [0], c__law_place_of⟩) := by
  obtain ⟨s1, e1, p1⟩ := h1
  obtain ⟨s2, e2, p2⟩ := h2
  intro l hk hl
  rw [runDef_eq (by rfl)]
  have sp := pSplit_tx (l := l) (s := [46, 46]) (by simp) rfl (by omega)
  have hp : ∀ p ∈ TL.spl [46, 46] 0 [] l, okL p ∧ p.length ≤ 640 := fun p q => by
    obtain ⟨h1, h2⟩ := spl_mem p q
    refine ⟨fun c hc => ?_, by simp at h1; omega⟩
    rcases h2 c hc with z | z
    · cases z
    · exact hk c z
  have nl : (TL.spl [46, 46] 0 [] l).length ≤ 1000 := by
    have : ∀ (n : Nat) (l acc : List Nat) (k : Nat), l.length ≤ n → (TL.spl [46, 46] k acc l).length ≤ l.length + 1 := by
      intro n
      induction n with
      | zero =>
        intro l acc k h
        cases l with
        | nil => rw [TL.spl_nil]; simp
        | cons c r => simp at h
      | succ n ih =>
        intro l acc k h
        cases l with
        | nil => rw [TL.spl_nil]; simp
        | cons c r =>
          simp only [List.length_cons] at h ⊢
          cases k with
          | zero =>
            by_cases e : TL.pre [46, 46] (c :: r) = true
            · rw [TL.spl_hit e]
              have := ih r [] ([46, 46].length - 1) (by omega)
              simp only [List.length_cons] at this ⊢
              omega
            · have e : TL.pre [46, 46] (c :: r) = false := by simpa using e
              rw [TL.spl_miss e]
              have := ih r (acc ++ [c]) 0 (by omega)
              omega
          | succ k =>
            have := ih r acc k (by omega)
            show (TL.spl [46, 46] k acc r).length ≤ _
            omega
    have := this _ l [] 0 (Nat.le_refl _)
    omega
  have ec := endL_map (tg := [2]) (tup := false) (c := evE F (.k (.bl true))) (e := evE F (.call "_law_number_of" (.cons (.v 2) .nil))) (ds := (TL.spl [46, 46] 0 [] l).map fun p => .str (tx p)) (bk := [(.lst ((TL.spl [46, 46] 0 [] l).map fun p => .str (tx p)), none)]) (g1 := [some (.val (.str (tx l))), none, none]) (g2 := [some (.val (.str (tx l))), none, none]) (fun d => match d with
    | .str x => prD (numIn x.cps.toList)
    | d => d) (by simp) (fun d hd => by
      obtain ⟨p, hpm, rfl⟩ := List.mem_map.mp hd
      have := p1 p (hp p hpm).1 (hp p hpm).2
      rw [turnC_eq]
      simp [e1, this]
      rfl) (by rw [List.length_map]; omega)
  have ed : ((TL.spl [46, 46] 0 [] l).map fun p => D.str (tx p)).map (fun d => match d with
    | .str x => prD (numIn x.cps.toList)
    | d => d) = ((TL.spl [46, 46] 0 [] l).map numIn).map prD := by
    rw [List.map_map, List.map_map]
    rfl
  rw [ed] at ec
  have pn := pIn_non ((TL.spl [46, 46] 0 [] l).map numIn)
  have key := spl_par (S := [46, 46]) (by simp) l []
  cases hpar : TL.par [46, 46] [] l with
  | none =>
    rw [hpar] at key
    dsimp only at key
    rw [List.nil_append] at key
    rw [key] at ec sp pn
    unfold placeIn
    rw [hpar]
    dsimp only
    simp only [List.map_cons, List.map_nil] at ec sp pn
    cases hn : numIn l with
    | none =>
      rw [hn] at ec pn
      simp only [prD] at ec pn
      simp [c__law_place_of, sl_dd, sp, ec, pn, optD]
    | some q =>
      obtain ⟨a, b⟩ := q
      rw [hn] at ec pn
      simp only [prD] at ec pn
      simp [c__law_place_of, sl_dd, sp, ec, pn, prD, prP, optD]
  | some tb =>
    obtain ⟨t, b⟩ := tb
    rw [hpar] at key
    dsimp only at key
    obtain ⟨lt, lb⟩ := par_len hpar
    simp only [List.length_nil, Nat.zero_add] at lt
    unfold placeIn
    rw [hpar]
    dsimp only
    have key2 := spl_par (S := [46, 46]) (by simp) b []
    cases hpb : TL.par [46, 46] [] b with
    | some q =>
      obtain ⟨t2, b2⟩ := q
      have hbb := par_back hpb
      rw [List.nil_append] at hbb
      have hnb : numIn b = none := numIn_dot (by rw [hbb]; simp) (by omega)
      rw [hnb]
      rw [hpb] at key2
      dsimp only at key2
      rw [key2] at key
      obtain ⟨x, xs, hx⟩ := List.exists_cons_of_ne_nil (spl_ne [46, 46] 0 [] b2)
      rw [hx] at key
      suffices hg : finS 1 [0] (evB F [0] c__law_place_of (List.map some [W.val (D.str (tx l))] ++ List.replicate (3 - 1) none)) = some (FR.ret (W.val .non) [W.val (D.str (tx l))]) by
        rw [hg]
        cases numIn t <;> rfl
      rw [key] at ec sp pn
      simp only [List.map_cons] at ec sp pn
      have hlen : (2 : Int) < ((List.map prD (List.map numIn xs)).length : Int) + 1 + 1 + 1 := by omega
      cases hA : (numIn t :: numIn t2 :: numIn x :: List.map numIn xs).any (·.isNone) with
      | true =>
        rw [hA] at pn
        simp [-List.map_map, -List.length_map, c__law_place_of, sl_dd, sp, ec, pn, optD]
      | false =>
        rw [hA] at pn
        simp [-List.map_map, -List.length_map, c__law_place_of, sl_dd, sp, ec, pn, optD, hlen]
    | none =>
      rw [hpb] at key2
      dsimp only at key2
      rw [List.nil_append] at key2
      rw [key2] at key
      rw [key] at ec sp pn
      simp only [List.map_cons, List.map_nil] at ec sp pn
      cases hn1 : numIn t with
      | none =>
        rw [hn1] at ec pn
        have hb1 : ([none, numIn b] : List (Option (Int × Int))).any (·.isNone) = true := rfl
        rw [hb1] at pn
        generalize hX : [prD none, prD (numIn b)] = X at ec pn
        simp [c__law_place_of, sl_dd, sp, ec, pn, optD]
      | some p =>
        cases hn2 : numIn b with
        | none =>
          rw [hn1, hn2] at ec pn
          have hb1 : ([some p, none] : List (Option (Int × Int))).any (·.isNone) = true := rfl
          rw [hb1] at pn
          generalize hX : [prD (some p), prD none] = X at ec pn
          simp [c__law_place_of, sl_dd, sp, ec, pn, optD]
        | some q =>
          rw [hn1, hn2] at ec pn
          obtain ⟨p1', p2'⟩ := p
          obtain ⟨q1', q2'⟩ := q
          obtain ⟨m1, m2, _⟩ := numIn_lt hn1 (by omega)
          obtain ⟨n1, n2, _⟩ := numIn_lt hn2 (by omega)
          have ls := p2 p1' p2' q1' q2' (okMul_of (k := 2560) (m := 2560) m1 n2 (by decide) (by decide) (by decide)) (okMul_of (k := 2560) (m := 2560) n1 m2 (by decide) (by decide) (by decide))
          simp only [prD] at ec pn
          dsimp only
          by_cases hlt : p1' * q2' < q1' * p2'
          · rw [if_pos hlt]
            simp only [decide_eq_true hlt] at ls
            simp [c__law_place_of, sl_dd, sp, ec, pn, e2, ls, prP, optD]
          · rw [if_neg hlt]
            simp only [decide_eq_false hlt] at ls
            simp [c__law_place_of, sl_dd, sp, ec, pn, e2, ls, prP, optD]
end Ev

set_option Elab.async false
set_option linter.all false
set_option maxRecDepth 100000
set_option maxHeartbeats 4000000
set_option exponentiation.threshold 10000
namespace Ev
open PySem PySem.Spec PyProof.Rows L2
def pyJ (j : Jb) : PyData := .tuple [.int j.a, .int j.d, pyN j.w]
theorem toP_jb (j : Jb) : (jb j).toP = some (pyJ j) := rfl
theorem toPs_jb : ∀ js : List Jb, D.toPs (js.map jb) = some (js.map pyJ)
  | [] => rfl
  | r :: rs => by
    show (match (jb r).toP, D.toPs (rs.map jb) with
      | some a, some b => some (a :: b)
      | _, _ => none) = _
    rw [toPs_jb rs, toP_jb]
    rfl
theorem lay_pyJ : ∀ rs : List Jb, PyData.canLayAll0 (rs.map pyJ) = true
  | [] => rfl
  | r :: rs => by
    show (PyData.canLay0 (pyJ r) && PyData.canLayAll0 (rs.map pyJ)) = true
    rw [lay_pyJ rs]
    rfl
theorem depthAll_pyJ : ∀ rs : List Jb, PyData.depthAll (rs.map pyJ) ≤ 10
  | [] => by simp [PyData.depthAll]
  | r :: rs => by
    have ih := depthAll_pyJ rs
    simp only [List.map_cons, PyData.depthAll]
    have : (pyJ r).depth ≤ 10 := by simp [pyJ, pyN, PyData.depth, PyData.depthAll]
    omega
theorem eqD_l0 (js : List Jb) : eqD (.lst (js.map jb)) (.lst []) = some (decide (js = [])) := by
  have h : (D.lst (js.map jb)).toP = some (.list (js.map pyJ)) := by
    show (D.toPs (js.map jb)).map PyData.list = _
    rw [toPs_jb]
    rfl
  have s : SeqAt.shaped (.list (js.map pyJ)) = true := by
    unfold SeqAt.shaped
    rw [Bool.and_eq_true]
    refine ⟨lay_pyJ js, decide_eq_true ?_⟩
    have := depthAll_pyJ js
    simp only [PyData.depth]
    omega
  unfold eqD
  rw [h]
  show (if SeqAt.shaped (.list (js.map pyJ)) = true ∧ SeqAt.shaped (.list []) = true then some (PyData.eqv (.list (js.map pyJ)) (.list [])) else none) = _
  rw [if_pos ⟨s, rfl⟩]
  congr 1
  cases js with
  | nil => simp [PyData.eqv, PyData.eqvAll]
  | cons j r => simp [PyData.eqv, PyData.eqvAll]
/-- what the law makes of a job behind others -/
def jobOf (acc : List D) (l : List Nat) : D := if jobsD (.tup (acc ++ [jobIn l])) = true then jobIn l else .non
theorem jobOf_bad {acc : List D} {l : List Nat} (h : isJob (jobIn l) = false) : jobOf acc l = .non := by
  unfold jobOf
  rw [bad_job h]
  rfl
theorem chain_end : ∀ (xs : List D) (x y : D), chainB (xs ++ [x] ++ [y]) = (chainB (xs ++ [x]) && !(decide (a0 y < a0 x) || decide (d0 y < d0 x)))
  | [], x, y => by
    show (!(decide (a0 y < a0 x) || decide (d0 y < d0 x)) && true) = (true && !(decide (a0 y < a0 x) || decide (d0 y < d0 x)))
    rw [Bool.and_true, Bool.true_and]
  | [z], x, y => by
    have ih := chain_end [] x y
    simp only [List.nil_append] at ih
    show (!(decide (a0 x < a0 z) || decide (d0 x < d0 z)) && chainB ([x] ++ [y])) = ((!(decide (a0 x < a0 z) || decide (d0 x < d0 z)) && chainB [x]) && _)
    rw [ih, Bool.and_assoc]
  | z :: w :: r, x, y => by
    have ih := chain_end (w :: r) x y
    show (!(decide (a0 w < a0 z) || decide (d0 w < d0 z)) && chainB (w :: r ++ [x] ++ [y])) = ((!(decide (a0 w < a0 z) || decide (d0 w < d0 z)) && chainB (w :: r ++ [x])) && _)
    rw [ih, Bool.and_assoc]
def PJobOf (s : List W → Option FR) : Prop := ∀ (js : List Jb) (l : List Nat), okL l → l.length ≤ 60 → (js = [] ∨ jobsD (.tup (js.map jb)) = true) → s [.val (.str (tx l)), .lst (js.map jb)] = some (.ret (.val (jobOf (js.map jb) l)) [.val (.str (tx l)), .lst (js.map jb)])
theorem jobs_snoc0 {x : D} : jobsD (.tup ([] ++ [x])) = isJob x := by
  unfold jobsD
  simp [chainB]
theorem jobs_snoc {init : List Jb} {z : Jb} {x : D} (h : jobsD (.tup ((init ++ [z]).map jb)) = true) : jobsD (.tup ((init ++ [z]).map jb ++ [x])) = (decide (init.length + 1 ≤ 11) && isJob x && !(decide (a0 x < z.a) || decide (d0 x < z.d))) := by
  obtain ⟨h1, h2, h3, h4⟩ := jobsD_iff.mp h
  have hall : ((init ++ [z]).map jb).all isJob = true := List.all_eq_true.mpr h3
  show (decide (1 ≤ ((init ++ [z]).map jb ++ [x]).length) && decide (((init ++ [z]).map jb ++ [x]).length ≤ 12) && ((init ++ [z]).map jb ++ [x]).all isJob && chainB ((init ++ [z]).map jb ++ [x])) = _
  rw [List.all_append, hall]
  have e : (init ++ [z]).map jb = init.map jb ++ [jb z] := by rw [List.map_append]; rfl
  rw [e] at h4 ⊢
  rw [chain_end, h4]
  have ez : a0 (jb z) = z.a ∧ d0 (jb z) = z.d := ⟨rfl, rfl⟩
  rw [ez.1, ez.2]
  simp
theorem run_job_of (F : Fe) (h1 : Fn F "_law_figures" PFigs) (h2 : Fn F "_law_number_of" PNumIn) : PJobOf (runDef F ⟨2, 6, [0, 1], c__law_job_of⟩) := by
  obtain ⟨s1, e1, p1⟩ := h1
  obtain ⟨s2, e2, p2⟩ := h2
  intro js l hk hl hg
  rw [runDef_eq (by rfl)]
  have sp := pSplit_tx (l := l) (s := [32]) (by simp) rfl (by omega)
  have hp : ∀ p ∈ TL.spl [32] 0 [] l, okL p ∧ p.length ≤ 60 := fun p q => by
    obtain ⟨h1, h2⟩ := spl_mem p q
    refine ⟨fun c hc => ?_, by simp at h1; omega⟩
    rcases h2 c hc with z | z
    · cases z
    · exact hk c z
  have bad : ∀ d, jobIn l = d → isJob d = false → jobOf (js.map jb) l = .non := fun d h1 h2 => jobOf_bad (by rw [h1]; exact h2)
  have hJ : jobIn l = (match TL.spl [32] 0 [] l with
    | [a, b, c] => if (figs a && figs b) = true then .tup [.int (valL a), .int (valL b), prD (numIn c)] else .non
    | _ => .non) := rfl
  generalize TL.spl [32] 0 [] l = ps at sp hp hJ
  by_cases h3 : ps.length = 3
  · match ps, h3 with
    | [a, b, c], _ =>
      obtain ⟨ka, la⟩ := hp a (by simp)
      obtain ⟨kb, lb⟩ := hp b (by simp)
      obtain ⟨kc, lc⟩ := hp c (by simp)
      have fa := p1 a ka (by omega)
      have fb := p1 b kb (by omega)
      have fc := p2 c kc (by omega)
      have ia := fun h : figs a = true => pInt_tx (l := a) (by rw [figs_strip h]; exact h) (by omega)
      have ib := fun h : figs b = true => pInt_tx (l := b) (by rw [figs_strip h]; exact h) (by omega)
      simp only [List.map_cons, List.map_nil] at sp
      dsimp only at hJ
      cases ha : figs a with
      | false =>
        rw [ha] at fa hJ
        rw [bad .non hJ rfl]
        simp [-List.length_map, c__law_job_of, sl_sp, sp, e1, fa]
      | true =>
        rw [ha] at fa hJ
        cases hb : figs b with
        | false =>
          rw [hb] at fb hJ
          rw [bad .non hJ rfl]
          simp [-List.length_map, c__law_job_of, sl_sp, sp, e1, fa, fb]
        | true =>
          rw [hb] at fb hJ
          have ia := ia ha
          have ib := ib hb
          have va : 0 ≤ valL a := by rw [dv_nat ha]; omega
          rw [if_pos (by rfl)] at hJ
          cases hn : numIn c with
          | none =>
            rw [hn] at fc hJ
            simp only [prD] at fc hJ
            rw [bad _ hJ (by simp [isJob, numD])]
            simp [-List.length_map, c__law_job_of, sl_sp, sp, e1, fa, fb, ia, ib, e2, fc]
          | some q =>
            obtain ⟨q1, q2⟩ := q
            rw [hn] at fc hJ
            simp only [prD] at fc hJ
            have hlow := (numIn_lt hn (by omega)).2.2
            have hq2 : 1 ≤ q2 := by
              have h : lowB q1 q2 = true := hlow
              unfold lowB at h
              simp only [Bool.and_eq_true, decide_eq_true_eq] at h
              exact h.1
            have hnd : numD (.tup [.int q1, .int q2]) = true := hlow
            have hpos : (0 < ratD (.tup [.int q1, .int q2])) ↔ ¬ q1 < 1 := by
              show (0 < Rat.divInt q1 q2) ↔ _
              constructor
              · intro h z
                have : Rat.divInt q1 q2 ≤ 0 := by
                  have h2 : 0 ≤ Rat.divInt (-q1) q2 := Rat.divInt_nonneg (by omega) (by omega)
                  rw [← Rat.neg_divInt] at h2
                  have := Rat.neg_le_neg h2
                  rwa [Rat.neg_neg, Rat.neg_zero] at this
                exact absurd h (Rat.not_lt.mpr this)
              · intro z
                exact divInt_pos (by omega) (by omega)
            have ij : isJob (.tup [.int (valL a), .int (valL b), .tup [.int q1, .int q2]]) = (decide (valL a < valL b) && decide (valL b ≤ 24) && decide (¬ q1 < 1)) := by
              show (decide (0 ≤ valL a) && decide (valL a < valL b) && decide (valL b ≤ 24) && numD (.tup [.int q1, .int q2]) && decide (0 < ratD (.tup [.int q1, .int q2]))) = _
              have hd : decide (0 < ratD (.tup [.int q1, .int q2])) = decide (¬ q1 < 1) := by
                by_cases z : q1 < 1 <;> simp [hpos, z]
              rw [decide_eq_true va, hnd, hd]
              simp
            by_cases c1 : q1 < 1
            · rw [bad _ hJ (by rw [ij]; simp [c1])]
              simp [-List.length_map, c__law_job_of, sl_sp, sp, e1, fa, fb, ia, ib, e2, fc, c1]
            · by_cases c2 : valL b ≤ valL a
              · have c2' : ¬ valL a < valL b := by omega
                rw [bad _ hJ (by rw [ij]; simp [c2'])]
                simp [-List.length_map, c__law_job_of, sl_sp, sp, e1, fa, fb, ia, ib, e2, fc, c1, c2]
              · by_cases c3 : 24 < valL b
                · have c3' : ¬ valL b ≤ 24 := by omega
                  rw [bad _ hJ (by rw [ij]; simp [c3'])]
                  simp [-List.length_map, c__law_job_of, sl_sp, sp, e1, fa, fb, ia, ib, e2, fc, c1, c2, c3]
                · have ijt : isJob (.tup [.int (valL a), .int (valL b), .tup [.int q1, .int q2]]) = true := by
                    rw [ij]
                    have : valL a < valL b := by omega
                    have h2 : valL b ≤ 24 := by omega
                    simp [this, h2, c1]
                  clear bad
                  unfold jobOf
                  rw [hJ]
                  rcases js.eq_nil_or_concat with rfl | ⟨init, z, rfl⟩
                  · have eq0 := eqD_l0 []
                    simp only [List.map_nil] at eq0 ⊢
                    rw [jobs_snoc0, ijt, if_pos rfl]
                    simp [c__law_job_of, sl_sp, sp, e1, fa, fb, ia, ib, e2, fc, c1, c2, c3, eq0]
                  · have hgd : jobsD (.tup ((init ++ [z]).map jb)) = true := by
                      rcases hg with h | h
                      · simp at h
                      · simpa using h
                    have el : init.concat z = init ++ [z] := List.concat_eq_append
                    try rw [el]
                    have eq0 := eqD_l0 (init ++ [z])
                    rw [decide_eq_false (by simp)] at eq0
                    have al : atI ((init ++ [z]).map jb) (-1) = some (.tup [.int z.a, .int z.d, nr z.w]) := by
                      rw [List.map_append]
                      exact atI_end
                    have ll : (((init ++ [z]).map jb).length : Int) = (init.length : Int) + 1 := by simp
                    rw [jobs_snoc hgd, ijt]
                    generalize (init ++ [z]).map jb = AC at eq0 al ll ⊢
                    show _ = some (FR.ret (.val (if (decide (init.length + 1 ≤ 11) && true && !(decide (valL a < z.a) || decide (valL b < z.d))) = true then _ else _)) _)
                    by_cases c4 : 11 < (AC.length : Int)
                    · have c4' : ¬ init.length + 1 ≤ 11 := by omega
                      rw [decide_eq_false c4']
                      simp [c__law_job_of, sl_sp, sp, e1, fa, fb, ia, ib, e2, fc, c1, c2, c3, c4]
                    · have c4' : init.length + 1 ≤ 11 := by omega
                      rw [decide_eq_true c4']
                      by_cases c5 : valL a < z.a
                      · simp [c__law_job_of, sl_sp, sp, e1, fa, fb, ia, ib, e2, fc, c1, c2, c3, c4, eq0, al, c5]
                      · by_cases c6 : valL b < z.d
                        · simp [c__law_job_of, sl_sp, sp, e1, fa, fb, ia, ib, e2, fc, c1, c2, c3, c4, eq0, al, c5, c6]
                        · simp [c__law_job_of, sl_sp, sp, e1, fa, fb, ia, ib, e2, fc, c1, c2, c3, c4, eq0, al, c5, c6]
  · have e3 : decide ((ps.length : Int) = 3) = false := decide_eq_false (by omega)
    have hm : (match ps with
      | [a, b, c] => if (figs a && figs b) = true then D.tup [.int (valL a), .int (valL b), prD (numIn c)] else .non
      | _ => .non) = .non := by
      split
      · exact absurd rfl h3
      · rfl
    rw [hm] at hJ
    rw [bad _ hJ rfl]
    simp [c__law_job_of, sl_sp, sp, e3]
end Ev

set_option Elab.async false
set_option linter.all false
set_option maxRecDepth 100000
set_option maxHeartbeats 4000000
set_option exponentiation.threshold 10000
namespace Ev
open PySem PySem.Spec PyProof.Rows L2
def PShowRowW (s : List W → Option FR) : Prop := ∀ rs : List Rat, (∀ r ∈ rs, szR 1900 r ∧ (ratL r).length ≤ 400) → rs.length ≤ 1000 → s [.val (.tup (rs.map nr))] = some (.ret (.val (.str (tx (TL.joinL [32] (rs.map ratL))))) [.val (.tup (rs.map nr))])
theorem run_show_rowW (F : Fe) (h : Fn F "show_number" PShowN) : PShowRowW (runDef F ⟨1, 2, [0], c_show_row⟩) := by
  obtain ⟨s, e, p⟩ := h
  intro rs hr hl
  rw [runDef_eq (by rfl)]
  have ec := endL_map (tg := [1]) (tup := false) (c := evE F (.k (.bl true))) (e := evE F (.call "show_number" (.cons (.v 1) .nil))) (ds := rs.map nr) (bk := [(.val (.tup (rs.map nr)), none)]) (g1 := [some (.val (.tup (rs.map nr))), none]) (g2 := [some (.val (.tup (rs.map nr))), none]) shD (by simp) (fun d hd => by
    obtain ⟨r, hm, rfl⟩ := List.mem_map.mp hd
    rw [turnC_eq]
    simp [e, p r (hr r hm).1, shD_nr]) (by rw [List.length_map]; omega)
  have e2 : (rs.map nr).map shD = (rs.map ratL).map fun p => .str (tx p) := by
    rw [map_nr fun r _ => shD_nr r, List.map_map]
    rfl
  rw [e2] at ec
  have ej := pJoin_l (s := [32]) (ps := rs.map ratL) (k := 400) (fun p hp => by
    obtain ⟨r, hm, rfl⟩ := List.mem_map.mp hp
    exact (hr r hm).2) (by rw [List.length_map]; simp; omega)
  simp [-List.map_map, c_show_row, sl_sp, ec, ej]
def PShowPlW (s : List W → Option FR) : Prop := ∀ p : Pl, szP 1900 p → (placeL p).length ≤ 400 → s [.val (pl p)] = some (.ret (.val (.str (tx (placeL p)))) [.val (pl p)])
theorem run_show_placeW (F : Fe) (h : Fn F "show_number" PShowN) : PShowPlW (runDef F ⟨1, 3, [0], c_show_place⟩) := by
  obtain ⟨s, e, q⟩ := h
  intro p hp hl
  rw [runDef_eq (by rfl)]
  have q1 := q p.1 hp.1
  have q2 := q p.2 hp.2.1
  have ee := eqD_nr p.1 p.2
  unfold placeL at hl ⊢
  by_cases h12 : p.1 = p.2
  · rw [if_pos h12]
    simp only [decide_eq_true h12] at ee
    simp [c_show_place, pl, ee, e, q1]
  · rw [if_neg h12] at hl ⊢
    simp only [List.length_append, List.length_cons, List.length_nil] at hl
    have a1 := pAdd_tx (a := ratL p.1) (b := [46, 46]) (by simp; omega)
    have a2 := pAdd_tx (a := ratL p.1 ++ [46, 46]) (b := ratL p.2) (by simp; omega)
    simp only [decide_eq_false h12] at ee
    simp [-List.append_assoc, c_show_place, pl, ee, e, q1, q2, sl_dd, a1, a2]
def PShowTW (s : List W → Option FR) : Prop := ∀ ps : List Pl, (∀ p ∈ ps, szP 1900 p ∧ (placeL p).length ≤ 400) → ps.length ≤ 1000 → s [.val (.tup (ps.map pl))] = some (.ret (.val (.str (tx (TL.joinL [44, 32] (ps.map placeL))))) [.val (.tup (ps.map pl))])
theorem run_show_tubeW (F : Fe) (h : Fn F "show_place" PShowPlW) : PShowTW (runDef F ⟨1, 2, [0], c_show_tube⟩) := by
  obtain ⟨s, e, p⟩ := h
  intro ps hr hl
  rw [runDef_eq (by rfl)]
  have ec := endL_map (tg := [1]) (tup := false) (c := evE F (.k (.bl true))) (e := evE F (.call "show_place" (.cons (.v 1) .nil))) (ds := ps.map pl) (bk := [(.val (.tup (ps.map pl)), none)]) (g1 := [some (.val (.tup (ps.map pl))), none]) (g2 := [some (.val (.tup (ps.map pl))), none]) shP (by simp) (fun d hd => by
    obtain ⟨r, hm, rfl⟩ := List.mem_map.mp hd
    rw [turnC_eq]
    simp [e, p r (hr r hm).1 (hr r hm).2, shP_pl]) (by rw [List.length_map]; omega)
  have e2 : (ps.map pl).map shP = (ps.map placeL).map fun p => .str (tx p) := by
    rw [map_pl fun r _ => shP_pl r, List.map_map]
    rfl
  rw [e2] at ec
  have ej := pJoin_l (s := [44, 32]) (ps := ps.map placeL) (k := 400) (fun p hp => by
    obtain ⟨r, hm, rfl⟩ := List.mem_map.mp hp
    exact (hr r hm).2) (by rw [List.length_map]; simp; omega)
  simp [-List.map_map, c_show_tube, sl_cs, ec, ej]
def PShowJW (s : List W → Option FR) : Prop := ∀ js : List Jb, (∀ j ∈ js, okW j ∧ (jobL j).length ≤ 400) → js.length ≤ 1000 → s [.val (.tup (js.map jb))] = some (.ret (.val (.str (tx (TL.joinL [59, 32] (js.map jobL))))) [.val (.tup (js.map jb))])
theorem run_show_jobsW (F : Fe) (h : Fn F "show_number" PShowN) : PShowJW (runDef F ⟨1, 4, [0], c_show_jobs⟩) := by
  obtain ⟨s, e, p⟩ := h
  intro js hr hl
  rw [runDef_eq (by rfl)]
  have ec := endL_map (tg := [1, 2, 3]) (tup := true) (c := evE F (.k (.bl true))) (e := evE F (.prim .add (.cons (.prim .add (.cons (.prim .add (.cons (.prim .add (.cons (.prim .str (.cons (.v 1) .nil)) (.cons (.k (.str " ")) .nil))) (.cons (.prim .str (.cons (.v 2) .nil)) .nil))) (.cons (.k (.str " ")) .nil))) (.cons (.call "show_number" (.cons (.v 3) .nil)) .nil)))) (ds := js.map jb) (bk := [(.val (.tup (js.map jb)), none)]) (g1 := [some (.val (.tup (js.map jb))), none, none, none]) (g2 := [some (.val (.tup (js.map jb))), none, none, none]) shJ (by simp [wipeG_cons]) (fun d hd => by
    obtain ⟨r, hm, rfl⟩ := List.mem_map.mp hd
    obtain ⟨ok, len⟩ := hr r hm
    obtain ⟨o1, o2, o3, o4⟩ := ok
    have nat : ∀ n : Nat, n ≤ 24 → pStr (.int (n : Int)) = some (.val (.str (tx (TL.numL n)))) := fun n hn => by
      rw [pStr_i, intL_nat]
      rw [Int.natAbs_natCast]
      exact Nat.lt_of_le_of_lt hn (by decide)
    have s1 := nat r.a (by omega)
    have s2 := nat r.d o2
    unfold jobL at len
    simp only [List.length_append, List.length_cons] at len
    have t1 := pAdd_tx (a := TL.numL r.a) (b := [32]) (by simp; omega)
    have t2 := pAdd_tx (a := TL.numL r.a ++ [32]) (b := TL.numL r.d) (by simp; omega)
    have t3 := pAdd_tx (a := TL.numL r.a ++ [32] ++ TL.numL r.d) (b := [32]) (by simp; omega)
    have t4 := pAdd_tx (a := TL.numL r.a ++ [32] ++ TL.numL r.d ++ [32]) (b := ratL r.w) (by simp; omega)
    have e4 : TL.numL r.a ++ [32] ++ TL.numL r.d ++ [32] ++ ratL r.w = jobL r := by unfold jobL; simp
    rw [e4] at t4
    have q := p r.w o4
    rw [turnC_eq, shJ_jb]
    unfold jb
    simp [-List.append_assoc, sl_sp, s1, s2, t1, t2, t3, t4, e, q, wipeG_cons]) (by rw [List.length_map]; omega)
  rw [map_jb] at ec
  have ej := pJoin_l (s := [59, 32]) (ps := js.map jobL) (k := 400) (fun p hp => by
    obtain ⟨r, hm, rfl⟩ := List.mem_map.mp hp
    exact (hr r hm).2) (by rw [List.length_map]; simp; omega)
  simp [-List.map_map, c_show_jobs, sl_sc, ec, ej]
theorem sliceTo_tx {l : List Nat} {k : Nat} (hl : l.length ≤ 1000000) : pSlice none (some (k : Int)) (.str (tx l)) = some (.val (.str (tx (l.take k)))) := by
  rw [pSlice_s (by rw [tx_len]; exact big_line (by omega))]
  exact congrArg (fun x => some (W.val (.str x))) cut_to
theorem sliceFrom_tx {l : List Nat} {k : Nat} (hl : l.length ≤ 1000000) : pSlice (some (k : Int)) none (.str (tx l)) = some (.val (.str (tx (l.drop k)))) := by
  rw [pSlice_s (by rw [tx_len]; exact big_line (by omega))]
  exact congrArg (fun x => some (W.val (.str x))) cut_from
theorem pLen_tx {l : List Nat} (h : l.length ≤ 1000000) : pLen (.str (tx l)) = some (.val (.int (l.length : Int))) := by
  rw [pLen_s (by rw [tx_len]; exact big_line h), tx_len]
def signsL : List Nat := cod " !\"#$&'()*+,-./0123456789:;<=>?@ABCDEFGHIJKLMNOPQRSTUVWXYZ[\\]^_`abcdefghijklmnopqrstuvwxyz{|}~\n\t"
def PSigns (s : List W → Option FR) : Prop := s [] = some (.ret (.val (.str (tx signsL))) [])
theorem run_signs (F : Fe) : PSigns (runDef F ⟨0, 1, [], c__law_signs⟩) := by
  unfold PSigns
  rw [runDef_eq (by rfl)]
  have z1 := ofS " !\"#$&'()*+,-./0123456789:;<=>?@ABCDEFGHIJKLMNOPQRSTUVWXYZ[\\]^_`"
  have z2 := ofS "abcdefghijklmnopqrstuvwxyz{|}~\n\t"
  have a1 := pAdd_tx (a := cod " !\"#$&'()*+,-./0123456789:;<=>?@ABCDEFGHIJKLMNOPQRSTUVWXYZ[\\]^_`") (b := cod "abcdefghijklmnopqrstuvwxyz{|}~\n\t") (by decide +kernel)
  have e : cod " !\"#$&'()*+,-./0123456789:;<=>?@ABCDEFGHIJKLMNOPQRSTUVWXYZ[\\]^_`" ++ cod "abcdefghijklmnopqrstuvwxyz{|}~\n\t" = signsL := by decide +kernel
  rw [e] at a1
  change Str.ofString _ = tx (cod _) at z1
  change Str.ofString _ = tx (cod _) at z2
  generalize cod " !\"#$&'()*+,-./0123456789:;<=>?@ABCDEFGHIJKLMNOPQRSTUVWXYZ[\\]^_`" = u at z1 a1
  generalize cod "abcdefghijklmnopqrstuvwxyz{|}~\n\t" = v at z2 a1
  simp [c__law_signs, z1, z2, a1]
def oddS : List String := ["", " ", "/", "-", "0", "1", "7", "..", ", ", "; ", ",", ";", ".", "1/2", " 3", "x"]
theorem odd_at {n : Int} : ∃ o : List Nat, okL o ∧ o.length ≤ 3 ∧ atI (oddS.map fun s => D.str (Str.ofString s)) (n % 16) = some (.str (tx o)) := by
  have h0 := Int.emod_nonneg n (show (16 : Int) ≠ 0 by decide)
  have h1 := Int.emod_lt_of_pos n (show (0 : Int) < 16 by decide)
  obtain ⟨k, hk⟩ : ∃ k : Nat, n % 16 = (k : Int) := ⟨(n % 16).toNat, by omega⟩
  have hk2 : k < 16 := by omega
  rw [hk, Ev.atI_nat, List.getElem?_map]
  have key : ∀ s ∈ oddS, okL (cod s) ∧ (cod s).length ≤ 3 := by
    have : oddS.all (fun s => (cod s).all (fun c => decide (c < 256)) && decide ((cod s).length ≤ 3)) = true := by decide +kernel
    intro s hs
    have := List.all_eq_true.mp this s hs
    simp only [Bool.and_eq_true, decide_eq_true_eq] at this
    exact ⟨okL_lit this.1, this.2⟩
  have hl : oddS.length = 16 := by decide
  obtain ⟨s, hs⟩ : ∃ s, oddS[k]? = some s := ⟨oddS[k]'(by omega), by simp [hl, hk2]⟩
  obtain ⟨k1, k2⟩ := key s (List.mem_of_getElem? hs)
  refine ⟨cod s, k1, k2, ?_⟩
  rw [hs]
  show some (D.str (Str.ofString s)) = _
  rw [ofS]
  rfl
def PBent (s : List W → Option FR) : Prop := ∀ (n : Int) (l : List Nat), okL l → l.length ≤ 1000 → ∃ (m : Int) (l' : List Nat), okL l' ∧ l'.length ≤ l.length + 3 ∧ s [.lst [.int n], .val (.str (tx l))] = some (.ret (.val (.str (tx l'))) [.lst [.int m], .val (.str (tx l))])
theorem run_bent (F : Fe) (h1 : Fn F "_law_take" PTake) (h2 : Fn F "_law_signs" PSigns) : PBent (runDef F ⟨2, 5, [0, 1], c__law_bent⟩) := fun n l hk hl => by
  obtain ⟨s1, e1, p1⟩ := h1
  obtain ⟨s2, e2, p2⟩ := h2
  unfold PSigns at p2
  rw [runDef_eq (by rfl)]
  obtain ⟨a, ha, ha2⟩ := nat_mod (n := n) (m := l.length + 1) (by omega)
  have t1 := p1 n ((l.length : Int) + 1) (by omega) (by omega)
  have ha : n % ((l.length : Int) + 1) = (a : Int) := by rw [← ha]; congr 1
  rw [ha] at t1
  generalize n / ((l.length : Int) + 1) = n1 at t1
  have t2 := p1 n1 16 (by decide) (by decide)
  obtain ⟨o, o1, o2, o3⟩ := odd_at (n := n1)
  have t3 := p1 (n1 / 16) 2 (by decide) (by decide)
  have tlen := pLen_tx (l := l) (by omega)
  have fin : ∀ (n2 : Int) (o : List Nat), okL o → o.length ≤ 3 → ∃ b : Nat, s1 [.lst [.int n2], .val (.int 3)] = some (.ret (.val (.int (b : Int))) [.lst [.int (n2 / 3)], .val (.int 3)]) ∧ pSlice none (some (a : Int)) (.str (tx l)) = some (.val (.str (tx (l.take a)))) ∧ pAdd (.str (tx (l.take a))) (.str (tx o)) = some (.val (.str (tx (l.take a ++ o)))) ∧ pSlice (some ((a : Int) + (b : Int))) none (.str (tx l)) = some (.val (.str (tx (l.drop (a + b))))) ∧ pAdd (.str (tx (l.take a ++ o))) (.str (tx (l.drop (a + b)))) = some (.val (.str (tx (l.take a ++ o ++ l.drop (a + b))))) ∧ okL (l.take a ++ o ++ l.drop (a + b)) ∧ (l.take a ++ o ++ l.drop (a + b)).length ≤ l.length + 3 := fun n2 o o1 o2 => by
    obtain ⟨b, hb, hb2⟩ := nat_mod (n := n2) (m := 3) (by omega)
    have t4 := p1 n2 3 (by decide) (by decide)
    have hb : n2 % 3 = (b : Int) := hb
    rw [hb] at t4
    refine ⟨b, t4, sliceTo_tx (by omega), pAdd_tx (by simp; omega), ?_, pAdd_tx (by simp; omega), okL_app.mpr ⟨okL_app.mpr ⟨okL_take _ hk, o1⟩, okL_drop _ hk⟩, by simp; omega⟩
    have := sliceFrom_tx (l := l) (k := a + b) (by omega)
    rw [Int.natCast_add] at this
    exact this
  by_cases hz : n1 / 16 % 2 = 1
  · have sk : okL signsL := okL_lit (by decide +kernel)
    have sl : 0 < signsL.length ∧ signsL.length ≤ 200 := by decide +kernel
    obtain ⟨c, hc, hc2⟩ := nat_mod (n := n1 / 16 / 2) (m := signsL.length) sl.1
    have t5 := p1 (n1 / 16 / 2) (signsL.length : Int) (by omega) (by omega)
    rw [hc] at t5
    have slen := pLen_tx (l := signsL) (by omega)
    have pi := pItem_s (l := signsL) (i := (c : Int)) (by omega)
    rw [Ev.atI_nat] at pi
    obtain ⟨x, hx⟩ : ∃ x, signsL[c]? = some x := ⟨signsL[c], by simp [hc2]⟩
    rw [hx] at pi
    simp only [ofO_some] at pi
    have hxk : okL [x] := okL_cons.mpr ⟨sk x (List.mem_of_getElem? hx), okL_nil⟩
    obtain ⟨b, f1, f2, f3, f4, f5, f6, f7⟩ := fin (n1 / 16 / 2 / (signsL.length : Int)) [x] hxk (by simp)
    refine ⟨n1 / 16 / 2 / (signsL.length : Int) / 3, _, f6, f7, ?_⟩
    unfold oddS at o3
    simp only [List.map_cons, List.map_nil] at o3
    generalize signsL = SG at *
    simp [-List.append_assoc, c__law_bent, e1, t1, t2, t3, tlen, o3, hz, e2, p2, slen, t5, pi, f1, f2, f3, f4, f5]
  · obtain ⟨b, f1, f2, f3, f4, f5, f6, f7⟩ := fin (n1 / 16 / 2) o o1 o2
    refine ⟨n1 / 16 / 2 / 3, _, f6, f7, ?_⟩
    unfold oddS at o3
    simp only [List.map_cons, List.map_nil] at o3
    simp [-List.append_assoc, c__law_bent, e1, t1, t2, t3, tlen, o3, hz, f1, f2, f3, f4, f5]
end Ev

set_option Elab.async false
set_option linter.all false
set_option maxRecDepth 100000
set_option maxHeartbeats 4000000
set_option exponentiation.threshold 10000
namespace K87
open PySem PySem.Spec PyProof.Rows L2 Ev
def Asks (F : Fe) (f : Str) (t : D) (d : D) : Prop := (∃ x o, Fn F f (fun s => s [.val t] = some (.ret (.val x) o)) ∧ d = .tup [.str "read", x]) ∨ ∃ (k : Int) (o : List W), Fn F f (fun s => s [.val t] = some (.exc ⟨"NoText", some ("part", .int k)⟩ o)) ∧ d = .tup [.str "none", .int k]
def PTold (F : Fe) (s : List W → Option FR) : Prop := ∀ (f : Str) (t d : D), Asks F f t d → s [.val (.fn f), .val t] = some (.ret (.val d) [.val (.fn f), .val t])
theorem run_told (F : Fe) : PTold F (runDef F ⟨2, 4, [0, 1], c__law_told_v2⟩) := fun f t d h => by
  rw [runDef_eq (by rfl)]
  have hx : ∀ (k : Int) (a b : Option W), exRead [0, 1] 3 2 "none" "part" ⟨"NoText", some ("part", .int k)⟩ [a, b, some (.val .non), none] = some (.nx [a, b, some (.val (.tup [.str "none", .int k])), none]) := fun k a b => by
    unfold exRead
    dsimp only
    rw [if_pos ⟨rfl, by decide, by decide⟩]
    rfl
  rcases h with ⟨x, o, ⟨s2, e2, p2⟩, rfl⟩ | ⟨k, o, ⟨s2, e2, p2⟩, rfl⟩
  · simp [c__law_told_v2, isFn_0, e2, p2]
  · simp [c__law_told_v2, isFn_0, e2, p2, sx0, hx]
def rdQ (h : List D → List Nat → D) : Nat → List D → List (List Nat) → Nat ⊕ List D
  | _, acc, [] => .inr acc
  | k, acc, p :: ps => if isNon (h acc p) = true ∨ 24 < k then .inl k else rdQ h (k + 1) (acc ++ [h acc p]) ps
theorem rdQ_row : ∀ (ps : List (List Nat)) (k : Nat) (acc : List (Int × Int)), rdQ (fun _ p => prD (numIn p)) k (acc.map prP) ps = match rdRow k acc ps with
    | .inl j => .inl j
    | .inr qs => .inr (qs.map prP)
  | [], k, acc => rfl
  | p :: ps, k, acc => by
    unfold rdQ rdRow
    cases hn : numIn p with
    | none => rw [if_pos (.inl rfl)]
    | some q =>
      have hnn : isNon (prD (some q)) = false := rfl
      dsimp only
      by_cases h25 : 25 ≤ k
      · rw [if_pos h25, if_pos (.inr (by omega))]
      · rw [if_neg h25, if_neg (by rw [hnn]; simp; omega)]
        have ih := rdQ_row ps (k + 1) (acc ++ [q])
        rw [List.map_append, List.map_singleton] at ih
        exact ih
theorem rdQ_tube : ∀ (ps : List (List Nat)) (k : Nat) (acc : List D), rdQ (fun _ p => optD (placeIn p)) k acc ps = rdG placeIn k acc ps
  | [], k, acc => rfl
  | p :: ps, k, acc => by
    unfold rdQ rdG
    cases hn : placeIn p with
    | none => rw [if_pos (.inl rfl)]
    | some q =>
      have hnn : isNon (optD (some q)) = false := placeIn_non p q hn
      dsimp only
      by_cases h25 : 25 ≤ k
      · rw [if_pos h25, if_pos (.inr (by omega))]
      · rw [if_neg h25, if_neg (by rw [hnn]; simp; omega)]
        exact rdQ_tube ps (k + 1) _
theorem isJob_non {d : D} (h : isJob d = true) : isNon d = false := by
  obtain ⟨a, b, w, rfl⟩ := isJob_form h
  rfl
theorem rdQ_jobs : ∀ (ps : List (List Nat)) (k : Nat) (acc : List D), acc.length = k → rdQ jobOf k acc ps = rdJ k acc ps
  | [], k, acc, _ => rfl
  | p :: ps, k, acc, hk => by
    unfold rdQ rdJ
    unfold jobOf
    by_cases hj : jobsD (.tup (acc ++ [jobIn p])) = true
    · have hl := jobsD_len hj
      have hi : isJob (jobIn p) = true := (jobsD_iff.mp hj).2.2.1 _ (by simp)
      rw [if_pos hj, if_pos hj, isJob_non hi]
      simp at hl
      rw [if_neg (by simp; omega)]
      exact rdQ_jobs ps (k + 1) _ (by simp; omega)
    · rw [if_neg hj, if_neg hj, if_pos (.inl rfl)]
def dueS0 : CS := nthS 0 (forB (nthS 2 c__law_due_v3))
def dueB : CB := forB (nthS 2 c__law_due_v3)
section
variable {F : Fe} {κ : Int} {t : D} {all : List (List Nat)} {h : List D → List Nat → D} {I : List D → Prop}
def gD (κ : Int) (t : D) (acc : List D) (all : List (List Nat)) (x4 x5 : Option W) : Sg := [some (.val (.int κ)), some (.val t), some (.lst acc), some (.lst (all.map fun p => .str (tx p))), x4, x5]
theorem due_loop (hstep : ∀ (acc : List D) (k : Nat) (x5 : Option W) (p : List Nat), x5 ≠ some .out → I acc → all[k]? = some p → evS F [0, 1] dueS0 (gD κ t acc all (some (.val (.int (k : Int)))) x5) = some (.nx (gD κ t acc all (some (.val (.int (k : Int)))) (some (.val (h acc p))))))
    (hI : ∀ (acc : List D) (p : List Nat), I acc → p ∈ all → isNon (h acc p) = false → I (acc ++ [h acc p])) : ∀ (m k : Nat) (acc : List D) (x4 x5 : Option W), x4 ≠ some .out → x5 ≠ some .out → all.length = k + m → acc.length = k → I acc →
    (match rdQ h k acc (all.drop k) with
    | .inr qs => ∃ y4 y5, forL (turnF [0, 1] [4] false (evB F [0, 1] dueB)) (rangeD k m) (gD κ t acc all x4 x5) = some (.nx (gD κ t qs all y4 y5))
    | .inl j => ∃ g, forL (turnF [0, 1] [4] false (evB F [0, 1] dueB)) (rangeD k m) (gD κ t acc all x4 x5) = some (.ret (.val (.tup [.str "none", .int (j : Int)])) (some (.val (.int κ)) :: some (.val t) :: g)))
  | 0, k, acc, x4, x5, _, _, hl, _, _ => by
    rw [List.drop_of_length_le (by omega)]
    exact ⟨x4, x5, rfl⟩
  | m + 1, k, acc, x4, x5, n4, n5, hl, hk, hi => by
    have hlt : k < all.length := by omega
    rw [List.drop_eq_getElem_cons hlt]
    have hp : all[k]? = some all[k] := by simp [hlt]
    generalize all[k] = p at hp
    have st := hstep acc k x5 p n5 hi hp
    have e : dueB = .cons dueS0 (.cons (.iff (.or (.prim .isN (.cons (.v 5) .nil)) (.prim .gt (.cons (.v 4) (.cons (.k (.int 24)) .nil)))) (.cons (.ret (.tup (.cons (.k (.str "none")) (.cons (.v 4) .nil)))) .nil) .nil) (.cons (.ex (.mut .append 2 (.cons (.v 5) .nil))) .nil)) := rfl
    show match rdQ h k acc (p :: all.drop (k + 1)) with
      | .inr qs => ∃ y4 y5, forL _ (.int k :: rangeD ((k : Int) + 1) m) _ = _
      | .inl j => ∃ g, forL _ (.int k :: rangeD ((k : Int) + 1) m) _ = _
    unfold rdQ
    have hset : turnF [0, 1] [4] false (evB F [0, 1] dueB) (.int k) (gD κ t acc all x4 x5) = evB F [0, 1] dueB (gD κ t acc all (some (.val (.int (k : Int)))) x5) := by
      unfold gD
      simp [n4]
    by_cases hb : isNon (h acc p) = true ∨ 24 < k
    · rw [if_pos hb]
      refine ⟨[some (.lst acc), some (.lst (all.map fun p => .str (tx p))), some (.val (.int (k : Int))), some (.val (h acc p))], ?_⟩
      rw [forL_cons, hset, e, evB_cons, st, seqS_nx]
      unfold gD
      rcases hb with hb | hb
      · simp [-List.map_map, hb]
      · have hb2 : (24 : Int) < k := by omega
        cases hnn : isNon (h acc p) <;> simp [-List.map_map, hnn, hb2]
    · rw [if_neg hb]
      have hb1 : isNon (h acc p) = false := by
        cases q : isNon (h acc p) with
        | true => exact absurd (.inl q) hb
        | false => rfl
      have hb2 : ¬ (24 : Int) < k := fun z => hb (.inr (by omega))
      have ap := mApp (xs := acc) (d := h acc p) (big_line (by
        have : ¬ 24 < k := fun z => hb (.inr z)
        omega))
      have ih := due_loop hstep hI m (k + 1) (acc ++ [h acc p]) (some (.val (.int (k : Int)))) (some (.val (h acc p))) (by simp) (by simp) (by omega) (by simp; omega) (hI acc p hi (List.mem_of_getElem? hp) hb1)
      have step : turnF [0, 1] [4] false (evB F [0, 1] dueB) (.int k) (gD κ t acc all x4 x5) = some (.nx (gD κ t (acc ++ [h acc p]) all (some (.val (.int (k : Int)))) (some (.val (h acc p))))) := by
        rw [hset, e, evB_cons, st, seqS_nx]
        unfold gD
        simp [-List.map_map, hb1, hb2, ap]
      rw [forL_cons, step, seqS_nx]
      exact ih
end
theorem spl_len (S : List Nat) : ∀ (n : Nat) (l acc : List Nat) (k : Nat), l.length ≤ n → (TL.spl S k acc l).length ≤ l.length + 1
  | _, [], acc, k, _ => by rw [TL.spl_nil]; simp
  | 0, _ :: _, _, _, h => by simp at h
  | n + 1, c :: r, acc, 0, h => by
    simp only [List.length_cons] at h ⊢
    by_cases e : TL.pre S (c :: r) = true
    · rw [TL.spl_hit e]
      have := spl_len S n r [] (S.length - 1) (by omega)
      simp only [List.length_cons] at this ⊢
      omega
    · have e : TL.pre S (c :: r) = false := by simpa using e
      rw [TL.spl_miss e]
      have := spl_len S n r (acc ++ [c]) 0 (by omega)
      omega
  | n + 1, c :: r, acc, k + 1, h => by
    simp only [List.length_cons] at h ⊢
    have := spl_len S n r acc k (by omega)
    show (TL.spl S k acc r).length ≤ _
    omega
def outD : Nat ⊕ List D → D
  | .inl j => .tup [.str "none", .int (j : Nat)]
  | .inr ds => .tup [.str "read", .tup ds]
def due0 (l : List Nat) : D := outD (rdQ (fun _ p => prD (numIn p)) 0 [] (TL.spl [32] 0 [] l))
def due1 (l : List Nat) : D := match rdQ (fun _ p => optD (placeIn p)) 0 [] (TL.spl [44, 32] 0 [] l) with
  | .inl j => outD (.inl j)
  | .inr ds => if ds.length = 1 then outD (.inl 1) else outD (.inr ds)
def due2 (l : List Nat) : D := outD (rdQ jobOf 0 [] (TL.spl [59, 32] 0 [] l))
section
variable {F : Fe} {l : List Nat}
theorem parts_ok {S : List Nat} (hk : okL l) {n : Nat} (hl : l.length ≤ n) : ∀ p ∈ TL.spl S 0 [] l, okL p ∧ p.length ≤ n := fun p q => by
  obtain ⟨h1, h2⟩ := spl_mem p q
  refine ⟨fun c hc => ?_, by simp at h1; omega⟩
  rcases h2 c hc with z | z
  · cases z
  · exact hk c z
theorem run_due0 (h1 : Fn F "_law_number_of" PNumIn) (hk : okL l) (hl : l.length ≤ 400) : runDef F ⟨2, 6, [0, 1], c__law_due_v3⟩ [.val (.int 0), .val (.str (tx l))] = some (.ret (.val (due0 l)) [.val (.int 0), .val (.str (tx l))]) := by
  obtain ⟨s1, e1, p1⟩ := h1
  have sp : prim .split [.str (tx l), .str (tx [32])] = _ := pSplit_tx (l := l) (s := [32]) (by simp) rfl (by omega)
  have hp := parts_ok (S := [32]) hk hl
  have nl := spl_len [32] _ l [] 0 (Nat.le_refl _)
  have lp := due_loop (F := F) (κ := 0) (t := .str (tx l)) (all := TL.spl [32] 0 [] l) (h := fun _ p => prD (numIn p)) (I := fun _ => True) (fun acc k x5 p n5 _ hpk => by
    obtain ⟨k1, k2⟩ := hp p (List.mem_of_getElem? hpk)
    have q := p1 p k1 (by omega)
    have ai : atI ((TL.spl [32] 0 [] l).map fun p => D.str (tx p)) (k : Int) = some (.str (tx p)) := by rw [Ev.atI_nat, List.getElem?_map, hpk]; rfl
    dsimp only [dueS0, nthS, forB, c__law_due_v3]
    unfold gD
    simp [-List.map_map, n5, ai, e1, q]) (fun _ _ _ _ _ => trivial) (TL.spl [32] 0 [] l).length 0 [] none none (by simp) (by simp) (by omega) rfl trivial
  rw [List.drop_zero, show ((0 : Nat) : Int) = 0 from rfl] at lp
  have rg : rangeOf [.int ((TL.spl [32] 0 [] l).length : Int)] = some (rangeD 0 (TL.spl [32] 0 [] l).length) := by rw [rangeOf1' (by omega), Int.toNat_natCast]
  unfold due0
  rw [runDef_eq (by rfl)]
  generalize TL.spl [32] 0 [] l = ps at *
  dsimp only [dueB, nthS, forB, c__law_due_v3] at lp
  cases hr : rdQ (fun _ p => prD (numIn p)) 0 [] ps with
  | inl j =>
    rw [hr] at lp
    obtain ⟨g, lp⟩ := lp
    unfold gD at lp
    simp [-List.map_map, c__law_due_v3, sl_sp, sp, rg, evS_for, lp, outD]
  | inr qs =>
    rw [hr] at lp
    obtain ⟨y4, y5, lp⟩ := lp
    unfold gD at lp
    simp [-List.map_map, c__law_due_v3, sl_sp, sp, rg, evS_for, lp, outD]
theorem run_due1 (h1 : Fn F "_law_place_of" (PPartS placeIn)) (hk : okL l) (hl : l.length ≤ 400) : runDef F ⟨2, 6, [0, 1], c__law_due_v3⟩ [.val (.int 1), .val (.str (tx l))] = some (.ret (.val (due1 l)) [.val (.int 1), .val (.str (tx l))]) := by
  obtain ⟨s1, e1, p1⟩ := h1
  have sp : prim .split [.str (tx l), .str (tx [44, 32])] = _ := pSplit_tx (l := l) (s := [44, 32]) (by simp) rfl (by omega)
  have hp := parts_ok (S := [44, 32]) hk hl
  have nl := spl_len [44, 32] _ l [] 0 (Nat.le_refl _)
  have lp := due_loop (F := F) (κ := 1) (t := .str (tx l)) (all := TL.spl [44, 32] 0 [] l) (h := fun _ p => optD (placeIn p)) (I := fun _ => True) (fun acc k x5 p n5 _ hpk => by
    obtain ⟨k1, k2⟩ := hp p (List.mem_of_getElem? hpk)
    have q := p1 p k1 (by omega)
    have ai : atI ((TL.spl [44, 32] 0 [] l).map fun p => D.str (tx p)) (k : Int) = some (.str (tx p)) := by rw [Ev.atI_nat, List.getElem?_map, hpk]; rfl
    dsimp only [dueS0, nthS, forB, c__law_due_v3]
    unfold gD
    simp [-List.map_map, n5, ai, e1, q]) (fun _ _ _ _ _ => trivial) (TL.spl [44, 32] 0 [] l).length 0 [] none none (by simp) (by simp) (by omega) rfl trivial
  rw [List.drop_zero, show ((0 : Nat) : Int) = 0 from rfl] at lp
  have rg : rangeOf [.int ((TL.spl [44, 32] 0 [] l).length : Int)] = some (rangeD 0 (TL.spl [44, 32] 0 [] l).length) := by rw [rangeOf1' (by omega), Int.toNat_natCast]
  unfold due1
  rw [runDef_eq (by rfl)]
  generalize TL.spl [44, 32] 0 [] l = ps at *
  dsimp only [dueB, nthS, forB, c__law_due_v3] at lp
  cases hr : rdQ (fun _ p => optD (placeIn p)) 0 [] ps with
  | inl j =>
    rw [hr] at lp
    obtain ⟨g, lp⟩ := lp
    unfold gD at lp
    simp [-List.map_map, c__law_due_v3, sl_cs, sp, rg, evS_for, lp, outD]
  | inr qs =>
    rw [hr] at lp
    obtain ⟨y4, y5, lp⟩ := lp
    unfold gD at lp
    by_cases h1l : qs.length = 1
    · have h2 : (qs.length : Int) = 1 := by omega
      simp [-List.map_map, c__law_due_v3, sl_cs, sp, rg, evS_for, lp, outD, h1l, h2]
    · have h2 : ¬ (qs.length : Int) = 1 := by omega
      simp [-List.map_map, c__law_due_v3, sl_cs, sp, rg, evS_for, lp, outD, h1l, h2]
theorem run_due2 (h1 : Fn F "_law_job_of" PJobOf) (hk : okL l) (hl : l.length ≤ 60) : runDef F ⟨2, 6, [0, 1], c__law_due_v3⟩ [.val (.int 2), .val (.str (tx l))] = some (.ret (.val (due2 l)) [.val (.int 2), .val (.str (tx l))]) := by
  obtain ⟨s1, e1, p1⟩ := h1
  have sp : prim .split [.str (tx l), .str (tx [59, 32])] = _ := pSplit_tx (l := l) (s := [59, 32]) (by simp) rfl (by omega)
  have hp := parts_ok (S := [59, 32]) hk hl
  have nl := spl_len [59, 32] _ l [] 0 (Nat.le_refl _)
  have lp := due_loop (F := F) (κ := 2) (t := .str (tx l)) (all := TL.spl [59, 32] 0 [] l) (h := jobOf) (I := fun acc => ∃ js : List Jb, acc = js.map jb ∧ (js = [] ∨ jobsD (.tup (js.map jb)) = true)) (fun acc k x5 p n5 ⟨js, ej, hj⟩ hpk => by
    subst ej
    obtain ⟨k1, k2⟩ := hp p (List.mem_of_getElem? hpk)
    have q := p1 js p k1 k2 hj
    have ai : atI ((TL.spl [59, 32] 0 [] l).map fun p => D.str (tx p)) (k : Int) = some (.str (tx p)) := by rw [Ev.atI_nat, List.getElem?_map, hpk]; rfl
    dsimp only [dueS0, nthS, forB, c__law_due_v3]
    unfold gD
    simp [-List.map_map, n5, ai, e1, q]) (fun acc p ⟨js, ej, hj⟩ hpm hn => by
    subst ej
    unfold jobOf at hn ⊢
    by_cases hg : jobsD (.tup (js.map jb ++ [jobIn p])) = true
    · rw [if_pos hg]
      have hi : isJob (jobIn p) = true := (jobsD_iff.mp hg).2.2.1 _ (by simp)
      obtain ⟨j, e, _⟩ := isJob_jb' hi
      rw [e] at hg ⊢
      have em : (js ++ [j]).map jb = js.map jb ++ [jb j] := by rw [List.map_append]; rfl
      exact ⟨js ++ [j], em.symm, .inr (by rw [em]; exact hg)⟩
    · rw [if_neg hg] at hn
      cases hn) (TL.spl [59, 32] 0 [] l).length 0 [] none none (by simp) (by simp) (by omega) rfl ⟨[], rfl, .inl rfl⟩
  rw [List.drop_zero, show ((0 : Nat) : Int) = 0 from rfl] at lp
  have rg : rangeOf [.int ((TL.spl [59, 32] 0 [] l).length : Int)] = some (rangeD 0 (TL.spl [59, 32] 0 [] l).length) := by rw [rangeOf1' (by omega), Int.toNat_natCast]
  unfold due2
  rw [runDef_eq (by rfl)]
  generalize TL.spl [59, 32] 0 [] l = ps at *
  dsimp only [dueB, nthS, forB, c__law_due_v3] at lp
  cases hr : rdQ jobOf 0 [] ps with
  | inl j =>
    rw [hr] at lp
    obtain ⟨g, lp⟩ := lp
    unfold gD at lp
    simp [-List.map_map, c__law_due_v3, sl_sc, sp, rg, evS_for, lp, outD]
  | inr qs =>
    rw [hr] at lp
    obtain ⟨y4, y5, lp⟩ := lp
    unfold gD at lp
    simp [-List.map_map, c__law_due_v3, sl_sc, sp, rg, evS_for, lp, outD]
end
theorem eqD_rd {s : Str} {ds : List D} {ps : List PyData} (hs : PyData.canLay0 (.str s) = true) (h1 : D.toPs ds = some ps) (h2 : PyData.canLayAll0 ps = true) (h3 : PyData.depthAll ps ≤ 10) (h4 : PyData.eqvAll ps ps = true) : eqD (.tup [.str s, .tup ds]) (.tup [.str s, .tup ds]) = some true := by
  have e : (D.tup [.str s, .tup ds]).toP = some (.tuple [.str s, .tuple ps]) := by
    show (D.toPs [.str s, .tup ds]).map PyData.tuple = _
    show (match D.toP (.str s), (match D.toP (.tup ds), D.toPs [] with
      | some a, some b => some (a :: b)
      | _, _ => none) with
      | some a, some b => some (a :: b)
      | _, _ => none).map PyData.tuple = _
    have : D.toP (.tup ds) = some (.tuple ps) := by
      show (D.toPs ds).map PyData.tuple = _
      rw [h1]
      rfl
    rw [this]
    rfl
  have sh : SeqAt.shaped (.tuple [.str s, .tuple ps]) = true := by
    unfold SeqAt.shaped
    rw [Bool.and_eq_true]
    constructor
    · show (PyData.canLay0 (.str s) && (PyData.canLay0 (.tuple ps) && true)) = true
      rw [hs]
      show (true && (PyData.canLayAll0 ps && true)) = true
      rw [h2]
      rfl
    · refine decide_eq_true ?_
      simp only [PyData.depth, PyData.depthAll]
      omega
  unfold eqD
  rw [e]
  dsimp only
  rw [if_pos ⟨sh, sh⟩]
  congr 1
  simp only [PyData.eqv, PyData.eqvAll, h4]
  simp
theorem eqD_no (j : Int) : eqD (.tup [.str "none", .int j]) (.tup [.str "none", .int j]) = some true := by
  have e : (D.tup [.str "none", .int j]).toP = some (.tuple [.str "none", .int j]) := rfl
  have sh : SeqAt.shaped (.tuple [.str "none", .int j]) = true := by
    unfold SeqAt.shaped
    rw [Bool.and_eq_true]
    exact ⟨by
      have h0 : PyData.canLay0 (.str "none") = true := by decide +kernel
      simp only [PyData.canLay0, PyData.canLayAll0] at h0 ⊢
      simp [h0], decide_eq_true (by simp [PyData.depth, PyData.depthAll])⟩
  unfold eqD
  rw [e]
  dsimp only
  rw [if_pos ⟨sh, sh⟩]
  congr 1
  simp [PyData.eqv, PyData.eqvAll]
theorem depth_nrs : ∀ rs : List Rat, PyData.depthAll (rs.map pyN) ≤ 10
  | [] => by simp [PyData.depthAll]
  | r :: rs => by
    have ih := depth_nrs rs
    simp only [List.map_cons, PyData.depthAll]
    have : (pyN r).depth ≤ 10 := by simp [pyN, PyData.depth, PyData.depthAll]
    omega
theorem self_nrs (rs : List Rat) : eqD (.tup [.str "read", .tup (rs.map nr)]) (.tup [.str "read", .tup (rs.map nr)]) = some true :=
  eqD_rd (by decide +kernel) (toPs_nr rs) (lay_pyN rs) (depth_nrs rs) (by rw [eqvAll_pyN]; simp)
def pyP (p : Pl) : PyData := .tuple [pyN p.1, pyN p.2]
theorem toPs_pl : ∀ ps : List Pl, D.toPs (ps.map pl) = some (ps.map pyP)
  | [] => rfl
  | r :: rs => by
    show (match (pl r).toP, D.toPs (rs.map pl) with
      | some a, some b => some (a :: b)
      | _, _ => none) = _
    rw [toPs_pl rs]
    rfl
theorem lay_pyP : ∀ rs : List Pl, PyData.canLayAll0 (rs.map pyP) = true
  | [] => rfl
  | r :: rs => by
    show (PyData.canLay0 (pyP r) && PyData.canLayAll0 (rs.map pyP)) = true
    rw [lay_pyP rs]
    rfl
theorem depth_pls : ∀ rs : List Pl, PyData.depthAll (rs.map pyP) ≤ 10
  | [] => by simp [PyData.depthAll]
  | r :: rs => by
    have ih := depth_pls rs
    simp only [List.map_cons, PyData.depthAll]
    have : (pyP r).depth ≤ 10 := by simp [pyP, pyN, PyData.depth, PyData.depthAll]
    omega
theorem eqvAll_pls : ∀ as : List Pl, PyData.eqvAll (as.map pyP) (as.map pyP) = true
  | [] => by simp [PyData.eqvAll]
  | a :: as => by
    have h1 := eqv_pyN a.1 a.1
    have h2 := eqv_pyN a.2 a.2
    simp only [List.map_cons, PyData.eqvAll, eqvAll_pls as, pyP, PyData.eqv, h1, h2]
    simp
theorem self_pls (rs : List Pl) : eqD (.tup [.str "read", .tup (rs.map pl)]) (.tup [.str "read", .tup (rs.map pl)]) = some true :=
  eqD_rd (by decide +kernel) (toPs_pl rs) (lay_pyP rs) (depth_pls rs) (eqvAll_pls rs)
theorem eqvAll_jbs : ∀ as : List Jb, PyData.eqvAll (as.map pyJ) (as.map pyJ) = true
  | [] => by simp [PyData.eqvAll]
  | a :: as => by
    have h1 := eqv_pyN a.w a.w
    simp only [List.map_cons, PyData.eqvAll, eqvAll_jbs as, pyJ, PyData.eqv, h1]
    simp
theorem self_jbs (js : List Jb) : eqD (.tup [.str "read", .tup (js.map jb)]) (.tup [.str "read", .tup (js.map jb)]) = some true :=
  eqD_rd (by decide +kernel) (toPs_jb js) (lay_pyJ js) (depthAll_pyJ js) (eqvAll_jbs js)
section
variable {l : List Nat}
theorem val0 (hk : okL l) (hl : l.length ≤ 400) : (∃ j : Nat, due0 l = .tup [.str "none", .int j]) ∨ ∃ rs : List Rat, due0 l = .tup [.str "read", .tup (rs.map nr)] ∧ (∀ r ∈ rs, szR 1900 r ∧ (ratL r).length ≤ 400) ∧ rs.length ≤ 25 ∧ TL.joinL [32] (rs.map ratL) = l := by
  have hp := parts_ok (S := [32]) hk hl
  have hgb := glue_back (S := [32]) (l := l) (by simp)
  unfold due0
  generalize TL.spl [32] 0 [] l = ps at hp hgb ⊢
  have e := rdQ_row ps 0 []
  rw [List.map_nil] at e
  rw [e]
  cases hr : rdRow 0 [] ps with
  | inl j => exact .inl ⟨j, rfl⟩
  | inr qs =>
    obtain ⟨rs, h1, h2, h3, h4⟩ := rdRow_back ps 0 [] qs hr fun p q => (hp p q).2
    rw [List.map_nil, List.nil_append] at h1
    refine .inr ⟨rs, by show outD (.inr (qs.map prP)) = _; rw [h1]; rfl, fun r hm => ⟨h3 r hm, ?_⟩, by have := h4 (by omega); omega, by rw [h2, hgb]⟩
    exact (hp (ratL r) (by rw [← h2]; exact List.mem_map_of_mem hm)).2
theorem val1 (hk : okL l) (hl : l.length ≤ 400) : (∃ j : Nat, due1 l = .tup [.str "none", .int j]) ∨ ∃ rs : List Pl, due1 l = .tup [.str "read", .tup (rs.map pl)] ∧ (∀ r ∈ rs, szP 1900 r ∧ (placeL r).length ≤ 400) ∧ 2 ≤ rs.length ∧ rs.length ≤ 25 ∧ TL.joinL [44, 32] (rs.map placeL) = l := by
  have hp := parts_ok (S := [44, 32]) hk hl
  have hgb := glue_back (S := [44, 32]) (l := l) (by simp)
  have hne := spl_ne [44, 32] 0 [] l
  unfold due1
  generalize TL.spl [44, 32] 0 [] l = ps at hp hgb hne ⊢
  rw [rdQ_tube ps 0 []]
  cases hr : rdG placeIn 0 [] ps with
  | inl j => exact .inl ⟨j, rfl⟩
  | inr ds =>
    obtain ⟨rs, h1, h2, h3, h4⟩ := rdG_back ps 0 [] ds hr fun p q => (hp p q).2
    rw [List.nil_append] at h1
    dsimp only
    by_cases h1l : ds.length = 1
    · rw [if_pos h1l]
      exact .inl ⟨1, rfl⟩
    · rw [if_neg h1l]
      have hdl : ds.length = rs.length := by rw [h1, List.length_map]
      have hrl : rs.length ≠ 0 := fun z => hne (by rw [← h2, List.length_eq_zero_iff.mp z]; rfl)
      refine .inr ⟨rs, by rw [h1]; rfl, fun r hm => ⟨h3 r hm, ?_⟩, by omega, by have := h4 (by omega); omega, by rw [h2, hgb]⟩
      exact (hp (placeL r) (by rw [← h2]; exact List.mem_map_of_mem hm)).2
theorem rdJ_last : ∀ (ps : List (List Nat)) (k : Nat) (acc ds : List D), rdJ k acc ps = .inr ds → (acc = [] ∨ jobsD (.tup acc) = true) → (ps = [] ∧ ds = acc) ∨ (ds = acc ++ ps.map jobIn ∧ jobsD (.tup ds) = true)
  | [], k, acc, ds, h, _ => by
    cases h
    exact .inl ⟨rfl, rfl⟩
  | p :: ps, k, acc, ds, h, ha => by
    unfold rdJ at h
    split at h
    · rename_i hj
      rcases rdJ_last ps _ _ _ h (.inr hj) with ⟨rfl, rfl⟩ | ⟨h1, h2⟩
      · exact .inr ⟨rfl, hj⟩
      · exact .inr ⟨by rw [h1]; simp, h2⟩
    · cases h
theorem val2 (hk : okL l) (hl : l.length ≤ 60) : (∃ j : Nat, due2 l = .tup [.str "none", .int j]) ∨ ∃ js : List Jb, due2 l = .tup [.str "read", .tup (js.map jb)] ∧ (∀ j ∈ js, okW j ∧ (jobL j).length ≤ 400) ∧ js.length ≤ 12 ∧ jobsD (.tup (js.map jb)) = true ∧ sane (.tup (js.map jb)) = true ∧ TL.joinL [59, 32] (js.map jobL) = l := by
  have hp := parts_ok (S := [59, 32]) hk hl
  have hgb := glue_back (S := [59, 32]) (l := l) (by simp)
  have hne := spl_ne [59, 32] 0 [] l
  unfold due2
  generalize TL.spl [59, 32] 0 [] l = ps at hp hgb hne ⊢
  rw [rdQ_jobs ps 0 [] rfl]
  cases hr : rdJ 0 [] ps with
  | inl j => exact .inl ⟨j, rfl⟩
  | inr ds =>
    obtain ⟨js, h1, h2, h3⟩ := rdJ_back ps 0 [] ds hr fun p q => (hp p q).2
    rw [List.nil_append] at h1
    rcases rdJ_last ps 0 [] ds hr (.inl rfl) with ⟨z, _⟩ | ⟨h4, h5⟩
    · exact absurd z hne
    · rw [List.nil_append] at h4
      have hlen := jobsD_len h5
      refine .inr ⟨js, by rw [h1]; rfl, fun j hm => ⟨h3 j hm, ?_⟩, by rw [h1, List.length_map] at hlen; exact hlen, by rw [← h1]; exact h5, ?_, by rw [h2, hgb]⟩
      · have := (hp (jobL j) (by rw [← h2]; exact List.mem_map_of_mem hm)).2
        omega
      · rw [← h1, h4]
        unfold sane
        rw [Bool.and_eq_true]
        refine ⟨decide_eq_true (by rw [h4] at hlen; omega), sanes_of fun d hd => ?_⟩
        obtain ⟨p, hpm, rfl⟩ := List.mem_map.mp hd
        exact jobIn_sane (hp p hpm).2
end
def PToldAll (s : List W → Option FR) : Prop := ∀ l, okL l →
  (l.length ≤ 400 → s [.val (.fn "read_row"), .val (.str (tx l))] = some (.ret (.val (due0 l)) [.val (.fn "read_row"), .val (.str (tx l))]))
  ∧ (l.length ≤ 400 → s [.val (.fn "read_tube"), .val (.str (tx l))] = some (.ret (.val (due1 l)) [.val (.fn "read_tube"), .val (.str (tx l))]))
  ∧ (l.length ≤ 60 → s [.val (.fn "read_jobs"), .val (.str (tx l))] = some (.ret (.val (due2 l)) [.val (.fn "read_jobs"), .val (.str (tx l))]))
theorem ptold {F : Fe} {s : List W → Option FR} (h : PTold F s) (h1 : Fn F "read_row" PRead) (h2 : Fn F "read_tube" PReadT) (h3 : Fn F "read_jobs" PReadJ) : PToldAll s := fun l hk => by
  obtain ⟨s1, e1, p1⟩ := h1
  obtain ⟨s2, e2, p2⟩ := h2
  obtain ⟨s3, e3, p3⟩ := h3
  refine ⟨fun hl => h _ _ _ ?_, fun hl => h _ _ _ ?_, fun hl => h _ _ _ ?_⟩
  · have q := p1.1 l hk (by omega) fun p hp => by have := (parts_ok hk hl p hp).2; omega
    unfold due0
    generalize TL.spl [32] 0 [] l = ps at q ⊢
    have e := rdQ_row ps 0 []
    rw [List.map_nil] at e
    rw [e]
    cases hr : rdRow 0 [] ps with
    | inl j =>
      rw [hr] at q
      exact .inr ⟨(j : Int), _, ⟨s1, e1, q⟩, rfl⟩
    | inr qs =>
      rw [hr] at q
      exact .inl ⟨_, _, ⟨s1, e1, q⟩, rfl⟩
  · have q := p2.1 l hk (by omega) fun p hp => by have := (parts_ok hk hl p hp).2; omega
    unfold due1
    have hne := spl_ne [44, 32] 0 [] l
    have hp := parts_ok (S := [44, 32]) hk hl
    generalize TL.spl [44, 32] 0 [] l = ps at q hne hp ⊢
    rw [rdQ_tube ps 0 []]
    cases hr : rdG placeIn 0 [] ps with
    | inl j =>
      rw [hr] at q
      exact .inr ⟨(j : Int), _, ⟨s2, e2, q⟩, rfl⟩
    | inr ds =>
      rw [hr] at q
      have q : s2 _ = (if ds.length < 2 then refN (.str (tx l)) 1 else some (.ret (.val (.tup ds)) [.val (.str (tx l))])) := q
      dsimp only
      by_cases h0 : ds.length = 0
      · obtain ⟨rs, k1, k2, _, _⟩ := rdG_back ps 0 [] ds hr fun p q => (hp p q).2
        rw [List.nil_append] at k1
        rw [k1, List.length_map] at h0
        exact absurd (by rw [← k2, List.length_eq_zero_iff.mp h0]; rfl) hne
      · by_cases h1l : ds.length = 1
        · rw [if_pos (by omega)] at q
          rw [if_pos h1l]
          exact .inr ⟨1, _, ⟨s2, e2, q⟩, rfl⟩
        · rw [if_neg (by omega)] at q
          rw [if_neg h1l]
          exact .inl ⟨_, _, ⟨s2, e2, q⟩, rfl⟩
  · have q := p3.1 l hk (by omega) fun p hp => (parts_ok hk hl p hp).2
    unfold due2
    generalize TL.spl [59, 32] 0 [] l = ps at q ⊢
    rw [rdQ_jobs ps 0 [] rfl]
    cases hr : rdJ 0 [] ps with
    | inl j =>
      rw [hr] at q
      exact .inr ⟨(j : Int), _, ⟨s3, e3, q⟩, rfl⟩
    | inr ds =>
      rw [hr] at q
      exact .inl ⟨_, _, ⟨s3, e3, q⟩, rfl⟩
def PDue (s : List W → Option FR) : Prop := ∀ l, okL l →
  (l.length ≤ 400 → s [.val (.int 0), .val (.str (tx l))] = some (.ret (.val (due0 l)) [.val (.int 0), .val (.str (tx l))]))
  ∧ (l.length ≤ 400 → s [.val (.int 1), .val (.str (tx l))] = some (.ret (.val (due1 l)) [.val (.int 1), .val (.str (tx l))]))
  ∧ (l.length ≤ 60 → s [.val (.int 2), .val (.str (tx l))] = some (.ret (.val (due2 l)) [.val (.int 2), .val (.str (tx l))]))
theorem pdue {F : Fe} (h1 : Fn F "_law_number_of" PNumIn) (h2 : Fn F "_law_place_of" (PPartS placeIn)) (h3 : Fn F "_law_job_of" PJobOf) : PDue (runDef F ⟨2, 6, [0, 1], c__law_due_v3⟩) := fun l hk => ⟨fun hl => run_due0 h1 hk hl, fun hl => run_due1 h2 hk hl, fun hl => run_due2 h3 hk hl⟩
def PRight (s : List W → Option FR) : Prop := ∀ l, okL l →
  (l.length ≤ 400 → s [.val (.int 0), .val (.str (tx l))] = some (.ret (.val (.bl true)) [.val (.int 0), .val (.str (tx l))]))
  ∧ (l.length ≤ 400 → s [.val (.int 1), .val (.str (tx l))] = some (.ret (.val (.bl true)) [.val (.int 1), .val (.str (tx l))]))
  ∧ (l.length ≤ 60 → s [.val (.int 2), .val (.str (tx l))] = some (.ret (.val (.bl true)) [.val (.int 2), .val (.str (tx l))]))
theorem eqs_no : eqD (.str "none") (.str "none") = some true := by decide +kernel
theorem eqs_rd : eqD (.str "read") (.str "none") = some false := by decide +kernel
theorem szP_sane {p : Pl} (h : szP 1900 p) : sane (pl p) = true ∧ pairD (pl p) = true := by
  have h1 := sane_nr (szR_mono h.1 (by decide : 1900 ≤ 2000))
  have h2 := sane_nr (szR_mono h.2.1 (by decide : 1900 ≤ 2000))
  constructor
  · show (decide (([nr p.1, nr p.2] : List D).length ≤ 1000) && sanes [nr p.1, nr p.2]) = true
    simp [sanes, h1, h2]
  · show (numD (nr p.1) && numD (nr p.2) && !decide (ratD (nr p.2) < ratD (nr p.1))) = true
    rw [numD_of, numD_of, ratD_nr, ratD_nr]
    simp [Rat.not_lt.mpr h.2.2]
theorem run_right (F : Fe) (h1 : Fn F "_law_due" PDue) (h2 : Fn F "_law_told" PToldAll) (h3 : Fn F "show_row" PShowRowW) (h4 : Fn F "show_tube" PShowTW) (h5 : Fn F "show_jobs" PShowJW) (h6 : Fn F "is_tube" PTube) (h7 : Fn F "is_jobs" PJobs)
    (g1 : F.gv "read_row" = some (.fn "read_row")) (g2 : F.gv "read_tube" = some (.fn "read_tube")) (g3 : F.gv "read_jobs" = some (.fn "read_jobs")) (g4 : F.gv "show_row" = some (.fn "show_row")) (g5 : F.gv "show_tube" = some (.fn "show_tube")) (g6 : F.gv "show_jobs" = some (.fn "show_jobs")) : PRight (runDef F ⟨2, 4, [0, 1], c__law_right_v14⟩) := fun l hk => by
  obtain ⟨s1, e1, p1⟩ := h1
  obtain ⟨s2, e2, p2⟩ := h2
  obtain ⟨s3, e3, p3⟩ := h3
  obtain ⟨s4, e4, p4⟩ := h4
  obtain ⟨s5, e5, p5⟩ := h5
  obtain ⟨s6, e6, p6⟩ := h6
  obtain ⟨s7, e7, p7⟩ := h7
  have el := eqD_tx hk hk
  refine ⟨fun hl => ?_, fun hl => ?_, fun hl => ?_⟩
  · rw [runDef_eq (by rfl)]
    have q1 := (p1 l hk).1 hl
    have q2 := (p2 l hk).1 hl
    rcases val0 hk hl with ⟨j, e⟩ | ⟨rs, e, h1, h2, h3⟩
    · rw [e] at q1 q2
      have es := eqD_no (j : Int)
      simp [c__law_right_v14, e1, q1, g1, g2, g3, e2, q2, es, eqs_no]
    · rw [e] at q1 q2
      have es := self_nrs rs
      have q3 := p3 rs h1 (by omega)
      rw [h3] at q3
      simp [-List.map_map, c__law_right_v14, e1, q1, g1, g2, g3, e2, q2, es, eqs_rd, g4, g5, g6, e3, q3, el]
  · rw [runDef_eq (by rfl)]
    have q1 := (p1 l hk).2.1 hl
    have q2 := (p2 l hk).2.1 hl
    rcases val1 hk hl with ⟨j, e⟩ | ⟨rs, e, h1, h2, h3, h4⟩
    · rw [e] at q1 q2
      have es := eqD_no (j : Int)
      simp [c__law_right_v14, e1, q1, g1, g2, g3, e2, q2, es, eqs_no]
    · rw [e] at q1 q2
      have es := self_pls rs
      have q3 := p4 rs h1 (by omega)
      rw [h4] at q3
      have sn : sane (.tup (rs.map pl)) = true := by
        unfold sane
        rw [Bool.and_eq_true]
        refine ⟨decide_eq_true (by rw [List.length_map]; omega), sanes_of fun d hd => ?_⟩
        obtain ⟨p, hp, rfl⟩ := List.mem_map.mp hd
        exact (szP_sane (h1 p hp).1).1
      have tb : tubeD (.tup (rs.map pl)) = true := by
        show (decide (2 ≤ (rs.map pl).length) && decide ((rs.map pl).length ≤ 25) && (rs.map pl).all pairD) = true
        rw [List.length_map]
        simp only [Bool.and_eq_true, decide_eq_true_eq]
        refine ⟨⟨h2, h3⟩, List.all_eq_true.mpr fun d hd => ?_⟩
        obtain ⟨p, hp, rfl⟩ := List.mem_map.mp hd
        exact (szP_sane (h1 p hp).1).2
      have it := p6 _ sn
      rw [tb] at it
      simp [-List.map_map, c__law_right_v14, e1, q1, g1, g2, g3, e2, q2, es, eqs_rd, g4, g5, g6, e4, q3, e6, it, el]
  · rw [runDef_eq (by rfl)]
    have q1 := (p1 l hk).2.2 hl
    have q2 := (p2 l hk).2.2 hl
    rcases val2 hk hl with ⟨j, e⟩ | ⟨js, e, h1, h2, h3, h4, h5⟩
    · rw [e] at q1 q2
      have es := eqD_no (j : Int)
      simp [c__law_right_v14, e1, q1, g1, g2, g3, e2, q2, es, eqs_no]
    · rw [e] at q1 q2
      have es := self_jbs js
      have q3 := p5 js h1 (by omega)
      rw [h5] at q3
      have it := p7 _ h4
      rw [h3] at it
      simp [-List.map_map, c__law_right_v14, e1, q1, g1, g2, g3, e2, q2, es, eqs_rd, g4, g5, g6, e5, q3, e7, it, el]
theorem joinL_len2 {s : List Nat} {k : Nat} : ∀ {ps : List (List Nat)}, ps ≠ [] → (∀ p ∈ ps, p.length ≤ k) → (TL.joinL s ps).length + s.length ≤ ps.length * (k + s.length)
  | [], h, _ => absurd rfl h
  | [p], _, h => by
    have := h p List.mem_cons_self
    show p.length + s.length ≤ 1 * (k + s.length)
    omega
  | p :: q :: r, _, h => by
    have ih := joinL_len2 (s := s) (ps := q :: r) (by simp) fun x hx => h x (List.mem_cons_of_mem _ hx)
    have := h p List.mem_cons_self
    show (p ++ (s ++ TL.joinL s (q :: r))).length + s.length ≤ _
    rw [List.length_append, List.length_append]
    simp only [List.length_cons] at ih ⊢
    rw [Nat.succ_mul]
    omega
theorem endL_of {tg : List Nat} {tup : Bool} {c e : Sg → Option (ER W)} {ds xs : List D} {bk : List (W × Option Nat)} {g1 g2 g3 : Sg} (hw : wipeG g1 tg = some g2) (hc : compL (turnC tg tup c e) ds g2 = some (xs, g3)) (hl : xs.length ≤ 100000) :
    endL tg tup c e ds bk g1 = some (.ok (.lst xs) (giveBack bk (restG g1 tg g3))) := by
  unfold endL
  rw [hw]
  dsimp only
  rw [hc]
  dsimp only
  rw [if_pos hl]
theorem strs_of {k : Nat} : ∀ {xs : List D}, (∀ x ∈ xs, ∃ o : List Nat, okL o ∧ o.length ≤ k ∧ x = .str (tx o)) → ∃ os : List (List Nat), xs = os.map (fun o => .str (tx o)) ∧ ∀ o ∈ os, okL o ∧ o.length ≤ k
  | [], _ => ⟨[], rfl, fun _ h => nomatch h⟩
  | x :: xs, h => by
    obtain ⟨o, h1, h2, h3⟩ := h x List.mem_cons_self
    obtain ⟨os, h4, h5⟩ := strs_of (xs := xs) fun y hy => h y (List.mem_cons_of_mem _ hy)
    refine ⟨o :: os, by rw [h3, h4]; rfl, fun q hq => ?_⟩
    rcases List.mem_cons.mp hq with rfl | hq
    · exact ⟨h1, h2⟩
    · exact h5 q hq
theorem rangeD_len : ∀ (n : Nat) (lo : Int), (rangeD lo n).length = n
  | 0, _ => rfl
  | n + 1, lo => by
    show (rangeD (lo + 1) n).length + 1 = n + 1
    rw [rangeD_len n]
def lawLoop : CB := forB (nthS 0 c_law_v3)
def sixB : CB := forB (nthS 5 lawLoop)
def bendB : CB := forB (nthS 1 sixB)
section
variable {F : Fe} {ns : List Int} {t κ : Int} {T : List Nat}
def gW (ns : List Int) (t q κ : Int) (T : List Nat) (x5 x6 x7 : Option W) : Sg := [some (.val (.ro (ns.map .int))), some (.val (.int t)), some (.lst [.int q]), some (.val (.int κ)), some (.val (.str (tx T))), x5, x6, x7, none, none]
theorem bend_loop (h1 : Fn F "_law_bent" PBent) : ∀ (j : Nat) (lo q : Int) (l : List Nat) (x5 x7 : Option W), x7 ≠ some .out → okL l → l.length + 3 * j ≤ 1000 →
    ∃ (q' : Int) (l' : List Nat) (y7 : Option W), y7 ≠ some W.out ∧ okL l' ∧ l'.length ≤ l.length + 3 * j ∧ forL (turnF [0] [7] false (evB F [0] bendB)) (rangeD lo j) (gW ns t q κ T x5 (some (.val (.str (tx l)))) x7) = some (.nx (gW ns t q' κ T x5 (some (.val (.str (tx l')))) y7))
  | 0, lo, q, l, x5, x7, n7, hk, _ => ⟨q, l, x7, n7, hk, by omega, rfl⟩
  | j + 1, lo, q, l, x5, x7, n7, hk, hl => by
    obtain ⟨s1, e1, p1⟩ := h1
    obtain ⟨m, l1, k1, k2, k3⟩ := p1 q l hk (by omega)
    obtain ⟨q', l', y7, h4, h5, h6, h7⟩ := bend_loop ⟨s1, e1, p1⟩ j (lo + 1) m l1 x5 (some (.val (.int lo))) (by simp) k1 (by omega)
    refine ⟨q', l', y7, h4, h5, by omega, ?_⟩
    show forL _ (.int lo :: rangeD (lo + 1) j) _ = _
    have step : turnF [0] [7] false (evB F [0] bendB) (.int lo) (gW ns t q κ T x5 (some (.val (.str (tx l)))) x7) = some (.nx (gW ns t m κ T x5 (some (.val (.str (tx l1)))) (some (.val (.int lo))))) := by
      dsimp only [bendB, sixB, lawLoop, forB, nthS, c_law_v3]
      unfold gW
      simp [-List.map_map, n7, e1, k3]
    rw [forL_cons, step, seqS_nx]
    exact h7
/-- a name's slot: nothing, or a number -/
def iv (x : Option W) : Prop := x = none ∨ ∃ i : Int, x = some (.val (.int i))
theorem iv_out {x : Option W} (h : iv x) : x ≠ some .out := by
  rcases h with rfl | ⟨i, rfl⟩ <;> simp
def I6 (ns : List Int) (t κ : Int) (T : List Nat) (g : Sg) : Prop := ∃ (q : Int) (x5 x6 x7 : Option W), iv x5 ∧ x6 ≠ some .out ∧ x7 ≠ some .out ∧ g = gW ns t q κ T x5 x6 x7
theorem six_turn (h1 : Fn F "_law_bent" PBent) (h2 : Fn F "_law_take" PTake) (h3 : Fn F "_law_right" fun s => ∀ l, okL l → l.length ≤ T.length + 6 → s [.val (.int κ), .val (.str (tx l))] = some (.ret (.val (.bl true)) [.val (.int κ), .val (.str (tx l))])) (hT : okL T) (hl : T.length ≤ 500) (d : Int) (g : Sg) (hg : I6 ns t κ T g) :
    ∃ g', turnF [0] [5] false (evB F [0] sixB) (.int d) g = some (.nx g') ∧ I6 ns t κ T g' := by
  obtain ⟨q, x5, x6, x7, n5, n6, n7, rfl⟩ := hg
  obtain ⟨s2, e2, p2⟩ := h2
  obtain ⟨s3, e3, p3⟩ := h3
  have t1 := p2 q 3 (by decide) (by decide)
  obtain ⟨j, hj, hj2⟩ := nat_mod (n := q) (m := 3) (by omega)
  have hj : q % 3 = (j : Int) := hj
  rw [hj] at t1
  have rg : rangeOf [.int (j : Int)] = some (rangeD 0 j) := by rw [rangeOf1' (by omega), Int.toNat_natCast]
  obtain ⟨q', l', y7, m7, k1, k2, lp⟩ := bend_loop (ns := ns) (t := t) (κ := κ) (T := T) h1 j 0 (q / 3) T (some (.val (.int d))) x7 n7 hT (by omega)
  have r := p3 l' k1 (by omega)
  refine ⟨gW ns t q' κ T (some (.val (.int d))) (some (.val (.str (tx l')))) y7, ?_, q', _, _, _, .inr ⟨d, rfl⟩, by simp, m7, rfl⟩
  have n5' := iv_out n5
  dsimp only [bendB, sixB, lawLoop, forB, nthS, c_law_v3] at lp
  dsimp only [sixB, lawLoop, forB, nthS, c_law_v3]
  unfold gW at lp ⊢
  simp [-List.map_map, n5', n6, evS_for, e2, t1, rg, lp, e3, r]
def gL (ns : List Int) (x1 x2 x3 x4 x5 x6 x7 : Option W) : Sg := [some (.val (.ro (ns.map .int))), x1, x2, x3, x4, x5, x6, x7, none, none]
def IL (ns : List Int) (g : Sg) : Prop := ∃ x1 x2 x3 x4 x5 x6 x7 : Option W, x1 ≠ some .out ∧ x2 ≠ some .out ∧ x3 ≠ some .out ∧ x4 ≠ some .out ∧ iv x5 ∧ x6 ≠ some .out ∧ x7 ≠ some .out ∧ g = gL ns x1 x2 x3 x4 x5 x6 x7
theorem law_turn (h1 : Fn F "_law_pack" PPack) (h2 : Fn F "_law_take" PTake) (h3 : Fn F "_law_number" PNumber) (h4 : Fn F "_law_number_text" PShowN) (h5 : Fn F "_law_loose_tube" PLoose) (h6 : Fn F "_law_place_text" PShowPl) (h7 : Fn F "_law_jobs" PDrawJ) (h8 : Fn F "_law_job_text" PJobT) (h9 : Fn F "_law_bent" PBent) (h10 : Fn F "_law_right" PRight) {ns : List Int} (hc : ∀ i ∈ ns, cell i) (hl : ns.length ≤ 63) {t : Int} (t0 : 0 ≤ t) (t1 : t ≤ 100) (g : Sg) (hg : IL ns g) : ∃ g', turnF [0] [1] false (evB F [0] lawLoop) (.int t) g = some (.nx g') ∧ IL ns g' := by
  obtain ⟨x1, x2, x3, x4, x5, x6, x7, n1, n2, n3, n4, n5, n6, n7, rfl⟩ := hg
  obtain ⟨s1, e1, p1⟩ := h1
  obtain ⟨s2, e2, p2⟩ := id h2
  obtain ⟨s3, e3, p3⟩ := h3
  obtain ⟨s4, e4, p4⟩ := h4
  obtain ⟨n, pk⟩ := p1 ns t hc hl t0 (by omega)
  have k1 := p2 n 3 (by decide) (by decide)
  have k2 := p2 (n / 3) 6 (by decide) (by decide)
  have b1 := Int.emod_nonneg (n / 3) (show (6 : Int) ≠ 0 by decide)
  have b2 := Int.emod_lt_of_pos (n / 3) (show (0 : Int) < 6 by decide)
  have b3 := Int.emod_nonneg n (show (3 : Int) ≠ 0 by decide)
  have b4 := Int.emod_lt_of_pos n (show (0 : Int) < 3 by decide)
  obtain ⟨m, hm⟩ : ∃ m : Nat, 1 + n / 3 % 6 = (m : Int) := ⟨(1 + n / 3 % 6).toNat, by omega⟩
  have rg : rangeOf [.int (m : Int)] = some (rangeD 0 m) := by rw [rangeOf1' (by omega), Int.toNat_natCast]
  have rg6 : rangeOf [.int 6] = some (rangeD 0 6) := rfl
  generalize hκ : n % 3 = κ at k1 b3 b4
  generalize n / 3 / 6 = z at k2
  have cp := compL_inv (f := turnC [5] false (evE F (.k (.bl true))) (evE F (.call "_law_number_text" (.cons (.call "_law_number" (.cons (.v 2) (.cons (.k (.int 9)) .nil))) .nil)))) (fun g => ∃ q : Int, g = [some (.val (.ro (ns.map .int))), some (.val (.int t)), some (.lst [.int q]), some (.val (.int κ)), x4, none, x6, x7, none, none]) (fun x => ∃ o : List Nat, okL o ∧ o.length ≤ 22 ∧ x = .str (tx o)) (rangeD 0 m) (fun d hd g ⟨q, hgq⟩ => by
    subst hgq
    obtain ⟨r, q', hr, hq⟩ := p3 q 9 (by decide) (by decide)
    have q4 := p4 r (fz_sz hr)
    refine ⟨.str (tx (ratL r)), _, ?_, ⟨q', rfl⟩, _, ratL_ok r, fz_len hr, rfl⟩
    rw [turnC_eq]
    simp [-List.map_map, e3, hq, e4, q4]) _ ⟨z, rfl⟩
  obtain ⟨xs, g3, c1, ⟨q, rfl⟩, c3, c4⟩ := cp
  obtain ⟨os, rfl, hos⟩ := strs_of c4
  rw [rangeD_len, List.length_map] at c3
  have hw : wipeG [some (.val (.ro (ns.map .int))), some (.val (.int t)), some (.lst [.int z]), some (.val (.int κ)), x4, x5, x6, x7, none, none] [5] = some [some (.val (.ro (ns.map .int))), some (.val (.int t)), some (.lst [.int z]), some (.val (.int κ)), x4, none, x6, x7, none, none] := by
    rcases n5 with rfl | ⟨i, rfl⟩ <;> simp
  have en := endL_of (bk := []) hw c1 (by rw [List.length_map]; omega)
  have j0 := pJoin_l (s := [32]) (ps := os) (k := 22) (fun p hp => (hos p hp).2) (by simp; omega)
  have okT0 : okL (TL.joinL [32] os) := joinL_ok (okL_lit rfl) fun p q => (hos p q).1
  have lT0 := joinL_len (s := [32]) (k := 22) fun p q => (hos p q).2
  simp only [List.length_cons, List.length_nil] at lT0
  generalize TL.joinL [32] os = T0 at j0 okT0 lT0
  generalize os.map (fun o => D.str (tx o)) = XS at en j0 c1
  have six : ∀ (κ q : Int) (T : List Nat), okL T → T.length ≤ 500 → Fn F "_law_right" (fun s => ∀ l, okL l → l.length ≤ T.length + 6 → s [.val (.int κ), .val (.str (tx l))] = some (.ret (.val (.bl true)) [.val (.int κ), .val (.str (tx l))])) → ∃ g', forL (turnF [0] [5] false (evB F [0] sixB)) (rangeD 0 6) (gW ns t q κ T x5 x6 x7) = some (.nx g') ∧ I6 ns t κ T g' := fun κ q T hT hlT hr =>
    forL_ex (I6 ns t κ T) (rangeD 0 6) (fun d hd g hg => by
      have : ∃ i : Int, d = .int i := by
        have : ∀ (n : Nat) (lo : Int), ∀ d ∈ rangeD lo n, ∃ i : Int, d = .int i := by
          intro n
          induction n with
          | zero => intro lo d h; cases h
          | succ n ih =>
            intro lo d h
            rcases List.mem_cons.mp h with rfl | h
            · exact ⟨lo, rfl⟩
            · exact ih _ d h
        exact this 6 0 d hd
      obtain ⟨i, rfl⟩ := this
      exact six_turn h9 h2 hr hT hlT i g hg) _ ⟨q, x5, x6, x7, n5, n6, n7, rfl⟩
  have n5' := iv_out n5
  obtain ⟨s10, e10, p10⟩ := h10
  have κ3 : κ = 0 ∨ κ = 1 ∨ κ = 2 := by omega
  rcases κ3 with rfl | rfl | rfl
  · obtain ⟨g', lp, q9, y5, y6, y7, m5, m6, m7, rfl⟩ := six 0 q T0 okT0 (by omega) ⟨s10, e10, fun l hk hl => (p10 l hk).1 (by omega)⟩
    refine ⟨_, ?_, some (.val (.int t)), some (.lst [.int q9]), some (.val (.int 0)), some (.val (.str (tx T0))), y5, y6, y7, by simp, by simp, by simp, by simp, m5, m6, m7, rfl⟩
    dsimp only [sixB, lawLoop, forB, nthS, c_law_v3] at lp
    dsimp only [lawLoop, forB, nthS, c_law_v3]
    unfold gL
    unfold gW at lp
    simp [-List.map_map, n1, n2, n3, n4, e1, pk, e2, k1, k2, hm, rg, en, sl_sp, j0, evS_for, rg6, lp]
  · obtain ⟨s5, e5, p5⟩ := h5
    obtain ⟨s6, e6, p6⟩ := h6
    obtain ⟨m5, ps, hp, l2, l5, q5⟩ := p5 q 5 5 (by decide) (by decide) (by decide) (by decide)
    have ec := endL_map (tg := [8]) (tup := false) (c := evE F (.k (.bl true))) (e := evE F (.call "_law_place_text" (.cons (.v 8) .nil))) (ds := ps.map pl) (bk := [(.val (.tup (ps.map pl)), none)]) (g1 := [some (.val (.ro (ns.map .int))), some (.val (.int t)), some (.lst [.int m5]), some (.val (.int 1)), some (.val (.str (tx T0))), x5, x6, x7, none, none]) (g2 := [some (.val (.ro (ns.map .int))), some (.val (.int t)), some (.lst [.int m5]), some (.val (.int 1)), some (.val (.str (tx T0))), x5, x6, x7, none, none]) shP (by simp) (fun d hd => by
      obtain ⟨r, hm, rfl⟩ := List.mem_map.mp hd
      rw [turnC_eq]
      simp [-List.map_map, e6, p6 r (hfp_fz (hp r hm)), shP_pl]) (by rw [List.length_map]; omega)
    have e2' : (ps.map pl).map shP = (ps.map placeL).map fun p => .str (tx p) := by
      rw [map_pl fun r _ => shP_pl r, List.map_map]
      rfl
    rw [e2'] at ec
    have hpl : ∀ p ∈ ps.map placeL, okL p ∧ p.length ≤ 46 := fun p hpm => by
      obtain ⟨r, hm, rfl⟩ := List.mem_map.mp hpm
      exact ⟨placeL_ok r, placeL_len (hfp_fz (hp r hm))⟩
    have j1 := pJoin_l (s := [44, 32]) (ps := ps.map placeL) (k := 46) (fun p hp => (hpl p hp).2) (by rw [List.length_map]; simp; omega)
    have okT1 : okL (TL.joinL [44, 32] (ps.map placeL)) := joinL_ok (okL_lit rfl) fun p q => (hpl p q).1
    have lT1 := joinL_len (s := [44, 32]) (k := 46) fun p q => (hpl p q).2
    rw [List.length_map] at lT1
    simp only [List.length_cons, List.length_nil] at lT1
    generalize TL.joinL [44, 32] (ps.map placeL) = T1 at j1 okT1 lT1
    obtain ⟨g', lp, q9, y5, y6, y7, m5', m6, m7, rfl⟩ := six 1 m5 T1 okT1 (by omega) ⟨s10, e10, fun l hk hl => (p10 l hk).2.1 (by omega)⟩
    refine ⟨_, ?_, some (.val (.int t)), some (.lst [.int q9]), some (.val (.int 1)), some (.val (.str (tx T1))), y5, y6, y7, by simp, by simp, by simp, by simp, m5', m6, m7, rfl⟩
    dsimp only [sixB, lawLoop, forB, nthS, c_law_v3] at lp
    dsimp only [lawLoop, forB, nthS, c_law_v3]
    unfold gL
    unfold gW at lp
    simp [-List.map_map, n1, n2, n3, n4, e1, pk, e2, k1, k2, hm, rg, en, sl_sp, j0, sl_cs, e5, q5, ec, j1, evS_for, rg6, lp]
  · obtain ⟨s7, e7, p7⟩ := h7
    obtain ⟨s8, e8, p8⟩ := h8
    obtain ⟨m5, js, hj, l5, hw2, q5⟩ := p7 q 4 (by decide) (by decide)
    have ec := endL_map (tg := [9]) (tup := false) (c := evE F (.k (.bl true))) (e := evE F (.call "_law_job_text" (.cons (.v 9) .nil))) (ds := js.map jb) (bk := [(.val (.tup (js.map jb)), none)]) (g1 := [some (.val (.ro (ns.map .int))), some (.val (.int t)), some (.lst [.int m5]), some (.val (.int 2)), some (.val (.str (tx T0))), x5, x6, x7, none, none]) (g2 := [some (.val (.ro (ns.map .int))), some (.val (.int t)), some (.lst [.int m5]), some (.val (.int 2)), some (.val (.str (tx T0))), x5, x6, x7, none, none]) shJ (by simp) (fun d hd => by
      obtain ⟨r, hm, rfl⟩ := List.mem_map.mp hd
      rw [turnC_eq]
      simp [-List.map_map, e8, p8 r (hj.1 r hm), shJ_jb]) (by rw [List.length_map]; omega)
    rw [map_jb] at ec
    have hjl : ∀ p ∈ js.map jobL, okL p ∧ p.length ≤ 12 := fun p hpm => by
      obtain ⟨r, hm, rfl⟩ := List.mem_map.mp hpm
      refine ⟨jobL_ok r, ?_⟩
      obtain ⟨o1, o2, o3, o4⟩ := hj.1 r hm
      have l1 := numL_len2 (n := r.a) (by omega)
      have l2 := numL_len2 o2
      have l3 := ratL_len (r := r.w) (k := 2) (by decide) (hw2 r hm).1 (hw2 r hm).2
      unfold jobL
      simp only [List.length_append, List.length_cons]
      omega
    have j1 := pJoin_l (s := [59, 32]) (ps := js.map jobL) (k := 12) (fun p hp => (hjl p hp).2) (by rw [List.length_map]; simp; omega)
    have okT1 : okL (TL.joinL [59, 32] (js.map jobL)) := joinL_ok (okL_lit rfl) fun p q => (hjl p q).1
    have lT1 := joinL_len2 (s := [59, 32]) (k := 12) (ps := js.map jobL) (fun e => by
      have h1 := hj.2.2.1
      have e : js = [] := by simpa using e
      rw [e] at h1
      simp at h1) fun p q => (hjl p q).2
    rw [List.length_map] at lT1
    simp only [List.length_cons, List.length_nil] at lT1
    generalize TL.joinL [59, 32] (js.map jobL) = T1 at j1 okT1 lT1
    obtain ⟨g', lp, q9, y5, y6, y7, m5', m6, m7, rfl⟩ := six 2 m5 T1 okT1 (by omega) ⟨s10, e10, fun l hk hl => (p10 l hk).2.2 (by omega)⟩
    refine ⟨_, ?_, some (.val (.int t)), some (.lst [.int q9]), some (.val (.int 2)), some (.val (.str (tx T1))), y5, y6, y7, by simp, by simp, by simp, by simp, m5', m6, m7, rfl⟩
    dsimp only [sixB, lawLoop, forB, nthS, c_law_v3] at lp
    dsimp only [lawLoop, forB, nthS, c_law_v3]
    unfold gL
    unfold gW at lp
    simp [-List.map_map, n1, n2, n3, n4, e1, pk, e2, k1, k2, hm, rg, en, sl_sp, j0, sl_sc, e7, q5, ec, j1, evS_for, rg6, lp]
def PLawRun (s : List W → Option FR) : Prop := ∀ ns : List Int, (∀ i ∈ ns, cell i) → ns.length ≤ 63 → s [.val (.ro (ns.map .int))] = some (.ret (.val (.bl true)) [.val (.ro (ns.map .int))])
theorem run_law (h1 : Fn F "_law_pack" PPack) (h2 : Fn F "_law_take" PTake) (h3 : Fn F "_law_number" PNumber) (h4 : Fn F "_law_number_text" PShowN) (h5 : Fn F "_law_loose_tube" PLoose) (h6 : Fn F "_law_place_text" PShowPl) (h7 : Fn F "_law_jobs" PDrawJ) (h8 : Fn F "_law_job_text" PJobT) (h9 : Fn F "_law_bent" PBent) (h10 : Fn F "_law_right" PRight) : PLawRun (runDef F ⟨1, 10, [0], c_law_v3⟩) := fun ns hc hl => by
  have hj : (1 : Int) ≤ (if (if (12 : Int) < (ns.length : Int) then 12 else (ns.length : Int)) > 1 then (if (12 : Int) < (ns.length : Int) then 12 else (ns.length : Int)) else 1) ∧ (if (if (12 : Int) < (ns.length : Int) then 12 else (ns.length : Int)) > 1 then (if (12 : Int) < (ns.length : Int) then 12 else (ns.length : Int)) else 1) ≤ 16 := by
    constructor
    · split <;> omega
    · split
      · split <;> omega
      · omega
  generalize hJ : (if (if (12 : Int) < (ns.length : Int) then 12 else (ns.length : Int)) > 1 then (if (12 : Int) < (ns.length : Int) then 12 else (ns.length : Int)) else 1) = J at hj
  obtain ⟨ds, hr, hds⟩ := range2 hj
  have lp := forL_ex (f := turnF [0] [1] false (evB F [0] lawLoop)) (IL ns) ds (fun d hd g hg => by
    obtain ⟨t, t0, t1, rfl⟩ := hds d hd
    exact law_turn h1 h2 h3 h4 h5 h6 h7 h8 h9 h10 hc hl t0 t1 g hg) (gL ns none none none none none none none) ⟨none, none, none, none, none, none, none, by simp, by simp, by simp, by simp, .inl rfl, by simp, by simp, rfl⟩
  obtain ⟨g', lp, x1, x2, x3, x4, x5, x6, x7, n1, n2, n3, n4, n5, n6, n7, rfl⟩ := lp
  dsimp only [lawLoop, forB, nthS, c_law_v3] at lp
  unfold gL at lp
  rw [runDef_eq (by rfl)]
  simp [-List.map_map, c_law_v3, evS_for, hJ, hr, lp]
end
end K87

set_option Elab.async false
set_option linter.all false
set_option maxRecDepth 100000
set_option maxHeartbeats 4000000
namespace K87
open PySem PySem.Spec PyProof.Rows L2 Ev
noncomputable def Fk (k : Nat) : Fe := semL T.gv (rest.drop k)
theorem nd : (rest.map (·.x)).Nodup := by decide +kernel
theorem gvk {k : Nat} {x : Str} {d : D} (h : T.gv x = some d) : (Fk k).gv x = some d := by
  unfold Fk
  rw [semL_gv]
  exact h
theorem at_ {P : (List W → Option FR) → Prop} {k : Nat} (i : Nat) {r : Rw} (hk : k ≤ i) (h : rest[i]? = some r) (hp : P (runDef (Fk (i + 1)) r.df)) : Fn (Fk k) r.x P := ⟨_, semL_fn nd hk h, hp⟩
theorem g_FIGURES : T.gv "FIGURES" = some (.str "0123456789") := by kernel_rfl
theorem g_MOST_PLACES_cordtexts : T.gv "MOST_PLACES_cordtexts" = some (.int 25) := by kernel_rfl
theorem g_LAST_HOUR : T.gv "LAST_HOUR" = some (.int 24) := by kernel_rfl
theorem g_NOUGHT : T.gv "NOUGHT" = some (.tup [.int 0, .int 1]) := by kernel_rfl
theorem g_MOST_JOBS : T.gv "MOST_JOBS" = some (.int 12) := by kernel_rfl
theorem g_MOST_PLACES_tubes : T.gv "MOST_PLACES_tubes" = some (.int 25) := by kernel_rfl
theorem g_read_row : T.gv "read_row" = some (.fn "read_row") := by kernel_rfl
theorem g_read_tube : T.gv "read_tube" = some (.fn "read_tube") := by kernel_rfl
theorem g_read_jobs : T.gv "read_jobs" = some (.fn "read_jobs") := by kernel_rfl
theorem g_show_row : T.gv "show_row" = some (.fn "show_row") := by kernel_rfl
theorem g_show_tube : T.gv "show_tube" = some (.fn "show_tube") := by kernel_rfl
theorem g_show_jobs : T.gv "show_jobs" = some (.fn "show_jobs") := by kernel_rfl
theorem f__law_mixed {k : Nat} (hk : k ≤ 21) : Fn (Fk k) "_law_mixed" PMixed := at_ 21 (r := r__law_mixed) hk rfl (run_mixed _)
theorem f__law_pack {k : Nat} (hk : k ≤ 20) : Fn (Fk k) "_law_pack" PPack := at_ 20 (r := r__law_pack) hk rfl (run_pack _ (f__law_mixed (by decide)))
theorem f__law_take {k : Nat} (hk : k ≤ 19) : Fn (Fk k) "_law_take" PTake := at_ 19 (r := r__law_take) hk rfl (ptake _)
theorem f__law_low {k : Nat} (hk : k ≤ 18) : Fn (Fk k) "_law_low" PLow := at_ 18 (r := r__law_low) hk rfl (plow _)
theorem f__law_number {k : Nat} (hk : k ≤ 16) : Fn (Fk k) "_law_number" PNumber := at_ 16 (r := r__law_number) hk rfl (run_number_d _ (f__law_take (by decide)) (f__law_low (by decide)))
theorem f__law_number_text {k : Nat} (hk : k ≤ 13) : Fn (Fk k) "_law_number_text" PShowN := at_ 13 (r := r__law_number_text) hk rfl (run_number_text _)
theorem f__law_more {k : Nat} (hk : k ≤ 17) : Fn (Fk k) "_law_more" (POp (· + ·)) := at_ 17 (r := r__law_more) hk rfl (run_more _ (f__law_low (by decide)))
theorem f__law_width {k : Nat} (hk : k ≤ 15) : Fn (Fk k) "_law_width" PWidth := at_ 15 (r := r__law_width) hk rfl (run_width _ (f__law_take (by decide)) (f__law_low (by decide)))
theorem f__law_loose_tube {k : Nat} (hk : k ≤ 14) : Fn (Fk k) "_law_loose_tube" PLoose := at_ 14 (r := r__law_loose_tube) hk rfl (run_loose _ (f__law_take (by decide)) (f__law_more (by decide)) (f__law_width (by decide)))
theorem f__law_place_text {k : Nat} (hk : k ≤ 12) : Fn (Fk k) "_law_place_text" PShowPl := at_ 12 (r := r__law_place_text) hk rfl (run_place_text _ (f__law_number_text (by decide)))
theorem f__law_jobs {k : Nat} (hk : k ≤ 11) : Fn (Fk k) "_law_jobs" PDrawJ := at_ 11 (r := r__law_jobs) hk rfl (run_drawJ _ (f__law_take (by decide)) (f__law_low (by decide)))
theorem f__law_job_text {k : Nat} (hk : k ≤ 10) : Fn (Fk k) "_law_job_text" PJobT := at_ 10 (r := r__law_job_text) hk rfl (run_job_text _ (f__law_number_text (by decide)))
theorem f__law_signs {k : Nat} (hk : k ≤ 8) : Fn (Fk k) "_law_signs" PSigns := at_ 8 (r := r__law_signs) hk rfl (run_signs _)
theorem f__law_bent {k : Nat} (hk : k ≤ 7) : Fn (Fk k) "_law_bent" PBent := at_ 7 (r := r__law_bent) hk rfl (run_bent _ (f__law_take (by decide)) (f__law_signs (by decide)))
theorem f__law_figures {k : Nat} (hk : k ≤ 5) : Fn (Fk k) "_law_figures" PFigs := at_ 5 (r := r__law_figures) hk rfl (run_figures _)
theorem f__law_number_of {k : Nat} (hk : k ≤ 4) : Fn (Fk k) "_law_number_of" PNumIn := at_ 4 (r := r__law_number_of) hk rfl (run_number_of _ (f__law_figures (by decide)) (f__law_low (by decide)))
theorem f__law_under {k : Nat} (hk : k ≤ 9) : Fn (Fk k) "_law_under" PLess := at_ 9 (r := r__law_under) hk rfl (run_under _)
theorem f__law_place_of {k : Nat} (hk : k ≤ 3) : Fn (Fk k) "_law_place_of" (PPartS placeIn) := at_ 3 (r := r__law_place_of) hk rfl (run_place_of _ (f__law_number_of (by decide)) (f__law_under (by decide)))
theorem f__law_job_of {k : Nat} (hk : k ≤ 2) : Fn (Fk k) "_law_job_of" PJobOf := at_ 2 (r := r__law_job_of) hk rfl (run_job_of _ (f__law_figures (by decide)) (f__law_number_of (by decide)))
theorem f__law_due {k : Nat} (hk : k ≤ 1) : Fn (Fk k) "_law_due" PDue := at_ 1 (r := r__law_due) hk rfl (pdue (f__law_number_of (by decide)) (f__law_place_of (by decide)) (f__law_job_of (by decide)))
theorem f_check_text {k : Nat} (hk : k ≤ 31) : Fn (Fk k) "check_text" PCheck := at_ 31 (r := r_check_text) hk rfl (run_check_text _)
theorem f_are_figures {k : Nat} (hk : k ≤ 33) : Fn (Fk k) "are_figures" PFigs := at_ 33 (r := r_are_figures) hk rfl (fun l h1 h2 => run_are_figures _ (gvk g_FIGURES) h1 h2)
theorem f_is_whole {k : Nat} (hk : k ≤ 42) : Fn (Fk k) "is_whole" PWhole := at_ 42 (r := r_is_whole) hk rfl (fun d h => run_is_whole _ h)
theorem f_common {k : Nat} (hk : k ≤ 41) : Fn (Fk k) "common" PCommon := at_ 41 (r := r_common) hk rfl (fun a b => run_common _ a b)
theorem f_is_number {k : Nat} (hk : k ≤ 40) : Fn (Fk k) "is_number" PIsNumber := at_ 40 (r := r_is_number) hk rfl (run_is_number _ (f_is_whole (by decide)) (f_common (by decide)))
theorem f_number_in {k : Nat} (hk : k ≤ 32) : Fn (Fk k) "number_in" PNumIn := at_ 32 (r := r_number_in) hk rfl (run_number_in _ (f_are_figures (by decide)) (f_is_number (by decide)))
theorem f_read_row {k : Nat} (hk : k ≤ 29) : Fn (Fk k) "read_row" PRead := at_ 29 (r := r_read_row) hk rfl (run_read_row _ "MOST_PLACES_cordtexts" (f_check_text (by decide)) (f_number_in (by decide)) (gvk g_MOST_PLACES_cordtexts))
theorem f_is_less {k : Nat} (hk : k ≤ 39) : Fn (Fk k) "is_less" PLess := at_ 39 (r := r_is_less) hk rfl (run_is_less _)
theorem f_place_in {k : Nat} (hk : k ≤ 26) : Fn (Fk k) "place_in" (PPart placeIn) := at_ 26 (r := r_place_in) hk rfl (run_place_in _ (f_number_in (by decide)) (f_is_less (by decide)))
theorem f_read_tube {k : Nat} (hk : k ≤ 25) : Fn (Fk k) "read_tube" PReadT := at_ 25 (r := r_read_tube) hk rfl (run_read_tube _ (f_check_text (by decide)) (f_place_in (by decide)) (gvk g_MOST_PLACES_cordtexts))
theorem f_job_in {k : Nat} (hk : k ≤ 23) : Fn (Fk k) "job_in" PJobIn := at_ 23 (r := r_job_in) hk rfl (run_job_in _ (f_are_figures (by decide)) (f_number_in (by decide)))
theorem f_is_job {k : Nat} (hk : k ≤ 36) : Fn (Fk k) "is_job" PJob := at_ 36 (r := r_is_job) hk rfl (run_is_job _ (f_is_whole (by decide)) ((f_is_number (by decide)).imp fun _ h => ⟨h.1, pisnums h.2⟩) (f_is_less (by decide)) (gvk g_LAST_HOUR) (gvk g_NOUGHT))
theorem f_is_jobs {k : Nat} (hk : k ≤ 35) : Fn (Fk k) "is_jobs" PJobs := at_ 35 (r := r_is_jobs) hk rfl (run_is_jobs _ (f_is_job (by decide)) (gvk g_MOST_JOBS))
theorem f_read_jobs {k : Nat} (hk : k ≤ 22) : Fn (Fk k) "read_jobs" PReadJ := at_ 22 (r := r_read_jobs) hk rfl (run_read_jobs _ (f_check_text (by decide)) (f_job_in (by decide)) (f_is_jobs (by decide)))
theorem f__law_told {k : Nat} (hk : k ≤ 6) : Fn (Fk k) "_law_told" PToldAll := at_ 6 (r := r__law_told) hk rfl (ptold (run_told _) (f_read_row (by decide)) (f_read_tube (by decide)) (f_read_jobs (by decide)))
theorem f_show_number {k : Nat} (hk : k ≤ 34) : Fn (Fk k) "show_number" PShowN := at_ 34 (r := r_show_number) hk rfl (pshown _)
theorem f_show_row {k : Nat} (hk : k ≤ 30) : Fn (Fk k) "show_row" PShowRowW := at_ 30 (r := r_show_row) hk rfl (run_show_rowW _ (f_show_number (by decide)))
theorem f_show_place {k : Nat} (hk : k ≤ 28) : Fn (Fk k) "show_place" PShowPlW := at_ 28 (r := r_show_place) hk rfl (run_show_placeW _ (f_show_number (by decide)))
theorem f_show_tube {k : Nat} (hk : k ≤ 27) : Fn (Fk k) "show_tube" PShowTW := at_ 27 (r := r_show_tube) hk rfl (run_show_tubeW _ (f_show_place (by decide)))
theorem f_show_jobs {k : Nat} (hk : k ≤ 24) : Fn (Fk k) "show_jobs" PShowJW := at_ 24 (r := r_show_jobs) hk rfl (run_show_jobsW _ (f_show_number (by decide)))
theorem f_is_pair {k : Nat} (hk : k ≤ 38) : Fn (Fk k) "is_pair" PPair := at_ 38 (r := r_is_pair) hk rfl (run_is_pair _ ((f_is_number (by decide)).imp fun _ h => ⟨h.1, pisnums h.2⟩) (f_is_less (by decide)))
theorem f_is_tube {k : Nat} (hk : k ≤ 37) : Fn (Fk k) "is_tube" PTube := at_ 37 (r := r_is_tube) hk rfl (run_is_tube _ "MOST_PLACES_tubes" (gvk g_MOST_PLACES_tubes) (f_is_pair (by decide)))
theorem f__law_right {k : Nat} (hk : k ≤ 0) : Fn (Fk k) "_law_right" PRight := at_ 0 (r := r__law_right) hk rfl (run_right _ (f__law_due (by decide)) (f__law_told (by decide)) (f_show_row (by decide)) (f_show_tube (by decide)) (f_show_jobs (by decide)) (f_is_tube (by decide)) (f_is_jobs (by decide)) (gvk g_read_row) (gvk g_read_tube) (gvk g_read_jobs) (gvk g_show_row) (gvk g_show_tube) (gvk g_show_jobs))
theorem holds : PySem.Challenge.rw_levelcord_k87_whole_texts_read_again.Holds := holds_of fun ns hl hb => ⟨_, run_law (F := Fk 0) (f__law_pack (by decide)) (f__law_take (by decide)) (f__law_number (by decide)) (f__law_number_text (by decide)) (f__law_loose_tube (by decide)) (f__law_place_text (by decide)) (f__law_jobs (by decide)) (f__law_job_text (by decide)) (f__law_bent (by decide)) (f__law_right (by decide)) ns (fun i hi => cell_of (hb i hi)) hl⟩
end K87

theorem PySem.Challenge.cw_levelcord_k87_whole_texts_read_again_holds : PySem.Challenge.rw_levelcord_k87_whole_texts_read_again.Holds :=
  K87.holds
