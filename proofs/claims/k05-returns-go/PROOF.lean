import PyProof.Rows.All
import Wide.All
import OpenK.AllK
import Wide.FinOn
import HandS.ForMost
import HandS.IsInst
import HandS.TupAny
import HandS.Deep
import HandS.Flow
import HandS.Defaults
import HandS.SetFor
import HandS.Strs
import HandS.TupMul
import HandS.ForSpec
import HandS.Head0
import HandS.Head1
import HandS.Head2
import HandS.HeadEnd
import HandS.HeadHook1
import HandS.HeadHook2
import HandS.Text
import HandS.SortKw
import PySem.Challenge.RW_hopmark_k05_whole_returns_go_with_the_we
set_option Elab.async false
set_option linter.all false
set_option maxRecDepth 100000
set_option maxHeartbeats 4000000
section
/-! A data layer over the hand layer: values as trees, readings as total functions. -/
namespace HD
open PySem PySem.Spec L2
open PyProof.Rows hiding St

/-! ### trees -/
inductive D where
  | non | bl (b : Bool) | int (i : Int) | str (x : Str)
  | tup (xs : List D) | lst (xs : List D) | dic (ks : List Int) (xs : List D)
  | raw (v : V) | row | scr (ns : List Int)

/-- what the counted list of a law holds: the script, a place, a mixed number -/
structure RwS where
  ns : List Int
  ix : Int
  mx : Int
abbrev Rw := Option RwS

mutual
def Rep (K : PySem.W.Frag) (r : Option Addr) (G : Hp) : D → V → Prop
  | .non, v => v = .non
  | .bl b, v => v = .bl b
  | .int i, v => v = .int i
  | .str x, v => v = .str x
  | .tup xs, v => ∃ a vs, v = .ref a ∧ SqT K G a vs ∧ vs.length ≤ sizeLine ∧ Reps K r G xs vs
  | .lst xs, v => ∃ a vs, v = .ref a ∧ G a = some (.lst vs) ∧ vs.length ≤ sizeLine ∧ Reps K r G xs vs
  | .dic ks xs, v => ∃ a kvs vs, v = .ref a ∧ G a = some (.dK kvs) ∧ kvs.length ≤ sizeLine ∧ kvs.map (·.1) = ks.map Sum.inl ∧ kvs.map (·.2) = vs ∧ Reps K r G xs vs
  | .raw u, v => v = u
  | .row, v => ∃ a, r = some a ∧ v = .ref a
  | .scr ns, v => ∃ a, v = .ref a ∧ ((∃ o, G a = some (.frz o (.lst (ns.map V.int)))) ∨ SqL K (fun _ => none) a (ns.map V.int)) ∧ ns.length ≤ sizeLine
def Reps (K : PySem.W.Frag) (r : Option Addr) (G : Hp) : List D → List V → Prop
  | [], vs => vs = []
  | d :: ds, vs => ∃ v t, vs = v :: t ∧ Rep K r G d v ∧ Reps K r G ds t
end

theorem Same.seqT {K : PySem.W.Frag} {H H' : Hp} {a : Addr} {xs : List V} (e : Same H H') (h : SqT K H a xs) : SqT K H' a xs := by
  rcases h with (h | ⟨o, h⟩) | h
  · exact .inl (.inl (e _ _ h))
  · exact .inl (.inr ⟨o, e _ _ h⟩)
  · exact .inr h

mutual
theorem Rep.mono {K : PySem.W.Frag} {r : Option Addr} {G G' : Hp} (e : Same G G') : ∀ {d : D} {v : V}, Rep K r G d v → Rep K r G' d v
  | .non, _, h => h
  | .bl _, _, h => h
  | .int _, _, h => h
  | .str _, _, h => h
  | .tup xs, v, h => by
    unfold Rep at h ⊢
    obtain ⟨a, vs, h1, h2, h3, h4⟩ := h
    exact ⟨a, vs, h1, Same.seqT e h2, h3, Reps.mono e h4⟩
  | .lst xs, v, h => by
    unfold Rep at h ⊢
    obtain ⟨a, vs, h1, h2, h3, h4⟩ := h
    exact ⟨a, vs, h1, e _ _ h2, h3, Reps.mono e h4⟩
  | .dic ks xs, v, h => by
    unfold Rep at h ⊢
    obtain ⟨a, kvs, vs, h1, h2, h3, h4, h5, h6⟩ := h
    exact ⟨a, kvs, vs, h1, e _ _ h2, h3, h4, h5, Reps.mono e h6⟩
  | .raw _, _, h => h
  | .row, _, h => h
  | .scr ns, v, h => by
    unfold Rep at h ⊢
    obtain ⟨a, h1, h2, h3⟩ := h
    exact ⟨a, h1, h2.imp (fun ⟨o, q⟩ => ⟨o, e _ _ q⟩) id, h3⟩
theorem Reps.mono {K : PySem.W.Frag} {r : Option Addr} {G G' : Hp} (e : Same G G') : ∀ {ds : List D} {vs : List V}, Reps K r G ds vs → Reps K r G' ds vs
  | [], _, h => h
  | d :: ds, vs, h => by
    unfold Reps at h ⊢
    obtain ⟨v, t, h1, h2, h3⟩ := h
    exact ⟨v, t, h1, Rep.mono e h2, Reps.mono e h3⟩
end

section
variable {K : PySem.W.Frag} {r : Option Addr} {G : Hp}
theorem Reps.nil : Reps K r G [] [] := by unfold Reps; rfl
theorem Reps.cons {d : D} {v : V} {ds : List D} {vs : List V} (h : Rep K r G d v) (t : Reps K r G ds vs) : Reps K r G (d :: ds) (v :: vs) := by
  unfold Reps; exact ⟨v, vs, rfl, h, t⟩
theorem Reps.length : ∀ {ds : List D} {vs : List V}, Reps K r G ds vs → ds.length = vs.length
  | [], _, h => by unfold Reps at h; subst h; rfl
  | d :: ds, vs, h => by
    unfold Reps at h
    obtain ⟨v, t, rfl, _, h3⟩ := h
    simp [Reps.length h3]
theorem Reps.get : ∀ {ds : List D} {vs : List V} {i : Nat} {d : D}, Reps K r G ds vs → ds[i]? = some d → ∃ v, vs[i]? = some v ∧ Rep K r G d v
  | [], _, _, _, _, h => by simp at h
  | d :: ds, vs, 0, e, h, h2 => by
    unfold Reps at h
    obtain ⟨v, t, rfl, h1, h3⟩ := h
    simp at h2; subst h2
    exact ⟨v, by simp, h1⟩
  | d :: ds, vs, i + 1, e, h, h2 => by
    unfold Reps at h
    obtain ⟨v, t, rfl, h1, h3⟩ := h
    obtain ⟨u, h4, h5⟩ := Reps.get (i := i) h3 (by simpa using h2)
    exact ⟨u, by simpa using h4, h5⟩
theorem Reps.got : ∀ {ds : List D} {vs : List V} {i : Nat} {v : V}, Reps K r G ds vs → vs[i]? = some v → ∃ d, ds[i]? = some d ∧ Rep K r G d v := fun {ds vs i v} h e => by
  have hl := h.length
  have hi : i < vs.length := (List.getElem?_eq_some_iff.mp e).1
  obtain ⟨u, h1, h2⟩ := Reps.get h (List.getElem?_eq_getElem (show i < ds.length by omega))
  rw [e] at h1; cases h1
  exact ⟨_, List.getElem?_eq_getElem (show i < ds.length by omega), h2⟩
theorem Reps.append : ∀ {ds es : List D} {vs us : List V}, Reps K r G ds vs → Reps K r G es us → Reps K r G (ds ++ es) (vs ++ us)
  | [], _, _, _, h, t => by unfold Reps at h; subst h; exact t
  | d :: ds, es, vs, us, h, t => by
    unfold Reps at h
    obtain ⟨v, w, rfl, h1, h3⟩ := h
    exact Reps.cons h1 (Reps.append h3 t)
theorem Reps.set : ∀ {ds : List D} {vs : List V} {d : D} {v : V} (i : Nat), Reps K r G ds vs → Rep K r G d v → Reps K r G (ds.set i d) (vs.set i v)
  | [], _, _, _, _, h, _ => by unfold Reps at h; subst h; exact Reps.nil
  | d :: ds, vs, e, u, 0, h, t => by
    unfold Reps at h
    obtain ⟨v, w, rfl, h1, h3⟩ := h
    exact Reps.cons t h3
  | d :: ds, vs, e, u, i + 1, h, t => by
    unfold Reps at h
    obtain ⟨v, w, rfl, h1, h3⟩ := h
    exact Reps.cons h1 (Reps.set i h3 t)
theorem Reps.take : ∀ {ds : List D} {vs : List V} (n : Nat), Reps K r G ds vs → Reps K r G (ds.take n) (vs.take n)
  | _, _, 0, _ => by simp; exact Reps.nil
  | [], _, _ + 1, h => by unfold Reps at h; subst h; exact Reps.nil
  | d :: ds, vs, n + 1, h => by
    unfold Reps at h
    obtain ⟨v, w, rfl, h1, h3⟩ := h
    exact Reps.cons h1 (Reps.take n h3)
theorem Reps.drop : ∀ {ds : List D} {vs : List V} (n : Nat), Reps K r G ds vs → Reps K r G (ds.drop n) (vs.drop n)
  | _, _, 0, h => h
  | [], _, _ + 1, h => by unfold Reps at h; subst h; exact Reps.nil
  | d :: ds, vs, n + 1, h => by
    unfold Reps at h
    obtain ⟨v, w, rfl, h1, h3⟩ := h
    exact Reps.drop n h3
theorem Reps.eraseIdx : ∀ {ds : List D} {vs : List V} (n : Nat), Reps K r G ds vs → Reps K r G (ds.eraseIdx n) (vs.eraseIdx n)
  | [], _, _, h => by unfold Reps at h; subst h; exact Reps.nil
  | d :: ds, vs, 0, h => by
    unfold Reps at h
    obtain ⟨v, w, rfl, h1, h3⟩ := h
    exact h3
  | d :: ds, vs, n + 1, h => by
    unfold Reps at h
    obtain ⟨v, w, rfl, h1, h3⟩ := h
    exact Reps.cons h1 (Reps.eraseIdx n h3)
theorem Reps.reverse : ∀ {ds : List D} {vs : List V}, Reps K r G ds vs → Reps K r G ds.reverse vs.reverse
  | [], _, h => by unfold Reps at h; subst h; exact Reps.nil
  | d :: ds, vs, h => by
    unfold Reps at h
    obtain ⟨v, w, rfl, h1, h3⟩ := h
    rw [List.reverse_cons, List.reverse_cons]
    exact Reps.append (Reps.reverse h3) (Reps.cons h1 Reps.nil)
theorem Reps.ints : ∀ {ns : List Int} {vs : List V}, Reps K r G (ns.map D.int) vs → vs = ns.map V.int
  | [], _, h => by unfold Reps at h; exact h
  | n :: ns, vs, h => by
    unfold Reps at h
    obtain ⟨v, w, rfl, h1, h3⟩ := h
    unfold Rep at h1
    rw [h1, Reps.ints h3]; rfl
theorem Reps.of_ints : ∀ (ns : List Int), Reps K r G (ns.map D.int) (ns.map V.int)
  | [] => Reps.nil
  | n :: ns => Reps.cons (by unfold Rep; rfl) (Reps.of_ints ns)
end

/-! ### results -/
inductive Exn where
  | web (w : Str) | ask | log (n : Int) | text (n : Int)
inductive R (α : Type) where
  | ok (a : α)
  | exc (x : Exn) (rw : Rw)
  | stuck
def R.bind {α β : Type} (r : R α) (f : α → R β) : R β := match r with
  | .ok a => f a
  | .exc x w => .exc x w
  | .stuck => .stuck
inductive Sl where
  | no
  | val (d : D)
  | own (d : D)
abbrev Dl := List Sl
abbrev EM (α : Type) := Dl → Rw → R (α × Rw)
inductive Fl where
  | next | ret (d : D) | brk | cont
abbrev SM := Dl → Rw → R (Fl × Dl × Rw)
abbrev FD := List D → Rw → R (D × Rw)

/-! ### heaps that grow -/
/-- nothing tracked changes but the row; the visible heap grows by new things -/
structure Gr (r : Option Addr) (H G H' G' : Hp) : Prop where
  h : ∀ a o, H a = some o → r ≠ some a → H' a = some o
  g : Same G G'
  n : ∀ a o, G' a = some o → G a = some o ∨ H a = none
  s : Same G' H'
  t : ∀ a o, H a = some o → ∃ o', H' a = some o'
theorem Gr.refl {r : Option Addr} {H G : Hp} (s : Same G H) : Gr r H G H G := ⟨fun _ _ h _ => h, Same.refl _, fun _ _ h => .inl h, s, fun _ o h => ⟨o, h⟩⟩
theorem Gr.trans {r : Option Addr} {H G H1 G1 H2 G2 : Hp} (x : Gr r H G H1 G1) (y : Gr r H1 G1 H2 G2) : Gr r H G H2 G2 where
  h := fun a o h ne => y.h _ _ (x.h _ _ h ne) ne
  g := x.g.trans y.g
  n := fun a o h => by
    rcases y.n a o h with z | z
    · exact x.n a o z
    · cases q : H a with
      | none => exact .inr rfl
      | some u =>
        obtain ⟨u', e⟩ := x.t a u q
        rw [z] at e
        cases e
  s := y.s
  t := fun a o h => let ⟨_, e⟩ := x.t a o h; y.t _ _ e
theorem Gr.new {r : Option Addr} {H G : Hp} (s : Same G H) {p : Addr} {o : HO} (hp : H p = none) : Gr r H G (upd H p o) (upd G p o) where
  h := fun a u e _ => by rw [upd_ne (ne_of_none e hp)]; exact e
  g := fun a u e => by rw [upd_ne (ne_of_none (s _ _ e) hp)]; exact e
  n := fun a u e => by
    by_cases h : a = p
    · exact .inr (h ▸ hp)
    · rw [upd_ne h] at e; exact .inl e
  s := fun a u e => by
    by_cases h : a = p
    · subst h; rw [upd_same] at e ⊢; exact e
    · rw [upd_ne h] at e ⊢; exact s _ _ e
  t := fun a u e => ⟨u, by rw [upd_ne (ne_of_none e hp)]; exact e⟩
/-- a new object that is not shown -/
theorem Gr.newO {r : Option Addr} {H G : Hp} (s : Same G H) {p : Addr} {o : HO} (hp : H p = none) : Gr r H G (upd H p o) G where
  h := fun a u e _ => by rw [upd_ne (ne_of_none e hp)]; exact e
  g := Same.refl _
  n := fun a u e => .inl e
  s := fun a u e => by rw [upd_ne (ne_of_none (s _ _ e) hp)]; exact s _ _ e
  t := fun a u e => ⟨u, by rw [upd_ne (ne_of_none e hp)]; exact e⟩

/-! ### the state of a body -/
structure C0 where
  r : Option Addr
  H0 : Hp
  G0 : Hp

def RowOk (K : PySem.W.Frag) (r : Option Addr) (rw : Rw) (H G : Hp) : Prop :=
  match r, rw with
  | none, none => True
  | some a, some w => G a = none ∧ ∃ v, H a = some (.lst [v, .int w.ix, .int w.mx]) ∧ Rep K r G (.scr w.ns) v
  | _, _ => False

/-- a list or a dict that one name alone holds -/
def Own (K : PySem.W.Frag) (C : C0) (H G : Hp) (d : D) (v : V) : Prop := ∃ p, v = .ref p ∧ G p = none ∧ C.H0 p = none ∧ C.r ≠ some p ∧
  match d with
  | .lst ds => ∃ vs, H p = some (.lst vs) ∧ vs.length ≤ sizeLine ∧ Reps K C.r G ds vs
  | .dic ks ds => ∃ kvs vs, H p = some (.dK kvs) ∧ kvs.length ≤ sizeLine ∧ kvs.map (·.1) = ks.map Sum.inl ∧ kvs.map (·.2) = vs ∧ Reps K C.r G ds vs
  | _ => False
def SlRep (K : PySem.W.Frag) (C : C0) (H G : Hp) : Sl → Option V → Prop
  | .no, _ => True
  | .val d, v => ∃ u, v = some u ∧ Rep K C.r G d u
  | .own d, v => ∃ u, v = some u ∧ Own K C H G d u

structure SR (K : PySem.W.Frag) (C : C0) (l : Dl) (rw : Rw) (σ : St) (H G : Hp) : Prop where
  sub : Same G H
  fr : ∀ a o, C.H0 a = some o → C.r ≠ some a → H a = some o
  g0 : Same C.G0 G
  gn : ∀ a o, G a = some o → C.G0 a = some o ∨ C.H0 a = none
  len : σ.length = l.length
  sl : ∀ (i : Nat) x, l[i]? = some x → ∃ v, σ[i]? = some v ∧ SlRep K C H G x v
  ow : ∀ (i j : Nat) d e p, i ≠ j → l[i]? = some (.own d) → l[j]? = some (.own e) → σ[i]? = some (some (.ref p)) → σ[j]? ≠ some (some (.ref p))
  row : RowOk K C.r rw H G

theorem RowOk.grow {K : PySem.W.Frag} {r : Option Addr} {rw : Rw} {H G H' G' : Hp} (h : RowOk K r rw H G) (e : Same H H') (g : Same G G') (n : ∀ a o, G' a = some o → G a = some o ∨ H a = none) : RowOk K r rw H' G' := by
  unfold RowOk at h ⊢
  cases r with
  | none => cases rw <;> exact h
  | some a =>
    cases rw with
    | none => exact h
    | some w =>
      obtain ⟨h1, v, h2, h3⟩ := h
      refine ⟨?_, v, e _ _ h2, h3.mono g⟩
      cases q : G' a with
      | none => rfl
      | some o =>
        rcases n a o q with z | z
        · rw [h1] at z; cases z
        · rw [h2] at z; cases z
theorem Own.grow {K : PySem.W.Frag} {C : C0} {H G H' G' : Hp} {d : D} {v : V} (h : Own K C H G d v) (x : Gr C.r H G H' G') : Own K C H' G' d v := by
  obtain ⟨p, h1, h2, h3, h4, h5⟩ := h
  have key : ∀ o, H p = some o → G' p = none := fun o ho => by
    cases q : G' p with
    | none => rfl
    | some o' =>
      rcases x.n p o' q with z | z
      · rw [h2] at z; cases z
      · rw [ho] at z; cases z
  cases d with
  | lst ds =>
    obtain ⟨vs, a1, a2, a3⟩ := h5
    exact ⟨p, h1, key _ a1, h3, h4, vs, x.h _ _ a1 h4, a2, a3.mono x.g⟩
  | dic ks ds =>
    obtain ⟨kvs, vs, a1, a2, a3, a4, a5⟩ := h5
    exact ⟨p, h1, key _ a1, h3, h4, kvs, vs, x.h _ _ a1 h4, a2, a3, a4, a5.mono x.g⟩
  | _ => exact h5.elim
theorem SlRep.grow {K : PySem.W.Frag} {C : C0} {H G H' G' : Hp} {x : Sl} {v : Option V} (h : SlRep K C H G x v) (g : Gr C.r H G H' G') : SlRep K C H' G' x v := by
  cases x with
  | no => trivial
  | val d => obtain ⟨u, e, q⟩ := h; exact ⟨u, e, q.mono g.g⟩
  | own d => obtain ⟨u, e, q⟩ := h; exact ⟨u, e, q.grow g⟩
theorem SR.grow {K : PySem.W.Frag} {C : C0} {l : Dl} {rw rw' : Rw} {σ : St} {H G H' G' : Hp} (h : SR K C l rw σ H G) (g : Gr C.r H G H' G') (w : RowOk K C.r rw' H' G') : SR K C l rw' σ H' G' := by
  refine ⟨g.s, fun a o e ne => g.h _ _ (h.fr a o e ne) ne, h.g0.trans g.g, fun a o e => ?_, h.len, fun i x e => ?_, h.ow, w⟩
  · rcases g.n a o e with z | z
    · exact h.gn a o z
    · cases q : C.H0 a with
      | none => exact .inr rfl
      | some u =>
        by_cases ne : C.r = some a
        · have w0 := h.row
          unfold RowOk at w0
          rw [ne] at w0
          cases rw with
          | none => exact w0.elim
          | some w =>
            obtain ⟨_, v, h2, _⟩ := w0
            rw [h2] at z; cases z
        · rw [h.fr a u q ne] at z; cases z
  · obtain ⟨v, e1, e2⟩ := h.sl i x e
    exact ⟨v, e1, e2.grow g⟩
/-- the same row content -/
theorem SR.grow0 {K : PySem.W.Frag} {C : C0} {l : Dl} {rw : Rw} {σ : St} {H G H' G' : Hp} (h : SR K C l rw σ H G) (e : Same H H') (g : Gr C.r H G H' G') : SR K C l rw σ H' G' := h.grow g (h.row.grow e g.g g.n)
theorem SR.new {K : PySem.W.Frag} {C : C0} {l : Dl} {rw : Rw} {σ : St} {H G : Hp} (h : SR K C l rw σ H G) {p : Addr} {o : HO} (hp : H p = none) : SR K C l rw σ (upd H p o) (upd G p o) :=
  h.grow0 (fun a u e => by rw [upd_ne (ne_of_none e hp)]; exact e) (Gr.new h.sub hp)
theorem SR.newO {K : PySem.W.Frag} {C : C0} {l : Dl} {rw : Rw} {σ : St} {H G : Hp} (h : SR K C l rw σ H G) {p : Addr} {o : HO} (hp : H p = none) : SR K C l rw σ (upd H p o) G :=
  h.grow0 (fun a u e => by rw [upd_ne (ne_of_none e hp)]; exact e) (Gr.newO h.sub hp)

/-! ### readings -/
/-- what is wanted of an exception -/
abbrev WD := Exn → St → Hp → Prop
/-- the result of an expression, brought on -/
def EPost (K : PySem.W.Frag) (W : WD) (C : C0) (l : Dl) (σ : St) (H G : Hp) (q : R (D × Rw)) (Q : VK) : Prop :=
  match q with
  | .ok (d, rw') => ∀ v H' G', SR K C l rw' σ H' G' → Gr C.r H G H' G' → Rep K C.r G' d v → Q v H'
  | .exc x rw' => ∀ H' G', SR K C l rw' σ H' G' → W x σ H'
  | .stuck => False
def tD (K : PySem.W.Frag) (W : WD) (g : EM D) : TE := fun σ H Q => ∃ C l rw G, SR K C l rw σ H G ∧ EPost K W C l σ H G (g l rw) Q
/-- .. of one whose value is a new list or dict that nothing else holds -/
def OPost (K : PySem.W.Frag) (W : WD) (C : C0) (l : Dl) (σ : St) (H G : Hp) (q : R (D × Rw)) (Q : VK) : Prop :=
  match q with
  | .ok (d, rw') => ∀ p H' G', SR K C l rw' σ H' G' → Gr C.r H G H' G' → H p = none → Own K C H' G' d (.ref p) → Q (.ref p) H'
  | .exc x rw' => ∀ H' G', SR K C l rw' σ H' G' → W x σ H'
  | .stuck => False
def tO (K : PySem.W.Frag) (W : WD) (g : EM D) : TE := fun σ H Q => ∃ C l rw G, SR K C l rw σ H G ∧ OPost K W C l σ H G (g l rw) Q
def TPost (K : PySem.W.Frag) (W : WD) (C : C0) (l : Dl) (σ : St) (H G : Hp) (q : R (Bool × Rw)) (Q : Bool → Hp → Prop) : Prop :=
  match q with
  | .ok (b, rw') => ∀ H' G', SR K C l rw' σ H' G' → Gr C.r H G H' G' → Q b H'
  | .exc x rw' => ∀ H' G', SR K C l rw' σ H' G' → W x σ H'
  | .stuck => False
def tT (K : PySem.W.Frag) (W : WD) (g : EM Bool) : TT := fun σ H Q => ∃ C l rw G, SR K C l rw σ H G ∧ TPost K W C l σ H G (g l rw) Q
def APost (K : PySem.W.Frag) (W : WD) (C : C0) (l : Dl) (σ : St) (H G : Hp) (q : R (List D × Rw)) (Q : List V → Hp → Prop) : Prop :=
  match q with
  | .ok (ds, rw') => ∀ vs H' G', SR K C l rw' σ H' G' → Gr C.r H G H' G' → Reps K C.r G' ds vs → Q vs H'
  | .exc x rw' => ∀ H' G', SR K C l rw' σ H' G' → W x σ H'
  | .stuck => False
def tA (K : PySem.W.Frag) (W : WD) (g : EM (List D)) : TA := fun σ H Q => ∃ C l rw G, SR K C l rw σ H G ∧ APost K W C l σ H G (g l rw) Q
/-- what a def hands back: a value, or a new thing (own) -/
def RetRep (K : PySem.W.Frag) (own : Bool) (C : C0) (H G : Hp) (d : D) (v : V) : Prop := if own = true then Own K C H G d v else Rep K C.r G d v
def SPost (K : PySem.W.Frag) (W : WD) (own : Bool) (C : C0) (q : R (Fl × Dl × Rw)) (E : Ends) : Prop :=
  match q with
  | .ok (.next, l', rw') => ∀ σ' H' G', SR K C l' rw' σ' H' G' → E.nx σ' H'
  | .ok (.ret d, l', rw') => ∀ v σ' H' G', SR K C l' rw' σ' H' G' → RetRep K own C H' G' d v → E.rt v H'
  | .ok (.brk, l', rw') => ∀ σ' H' G', SR K C l' rw' σ' H' G' → E.bk σ' H'
  | .ok (.cont, l', rw') => ∀ σ' H' G', SR K C l' rw' σ' H' G' → E.ct σ' H'
  | .exc x rw' => ∀ l' σ' H' G', SR K C l' rw' σ' H' G' → W x σ' H'
  | .stuck => False
def tS (K : PySem.W.Frag) (W : WD) (own : Bool) (g : SM) : TS := fun E σ H => ∃ C l rw G, SR K C l rw σ H G ∧ SPost K W own C (g l rw) E

abbrev DE (X : Cx) (W : WD) (e : Expr) (g : EM D) : Prop := PE X e (tD X.K W g)
abbrev DO (X : Cx) (W : WD) (e : Expr) (g : EM D) : Prop := PE X e (tO X.K W g)
abbrev DT (X : Cx) (W : WD) (e : Expr) (g : EM Bool) : Prop := PT X e (tT X.K W g)
abbrev DA (X : Cx) (W : WD) (es : List Expr) (g : EM (List D)) : Prop := PA X es (tA X.K W g)
abbrev DS (X : Cx) (W : WD) (own : Bool) (st : Stmt) (g : SM) : Prop := PS X st (tS X.K W own g)
abbrev DSs (X : Cx) (W : WD) (own : Bool) (st : List Stmt) (g : SM) : Prop := PSs X st (tS X.K W own g)

/-! ### weakening -/
theorem pe_imp {X : Cx} {e : Expr} {t t' : TE} (h : PE X e t) (i : ∀ σ H Q, t' σ H Q → t σ H Q) : PE X e t' := ⟨fun pins s σ H Q I q => h.run pins s σ H Q I (i σ H Q q)⟩
theorem pt_imp {X : Cx} {e : Expr} {t t' : TT} (h : PT X e t) (i : ∀ σ H Q, t' σ H Q → t σ H Q) : PT X e t' := ⟨fun pins s σ H Q I q => h.run pins s σ H Q I (i σ H Q q)⟩
theorem pw_imp {X : Cx} {e : Expr} {t t' : TT} (h : PW X e t) (i : ∀ σ H Q, t' σ H Q → t σ H Q) : PW X e t' := ⟨fun wh pins s σ H Q I q => h.run wh pins s σ H Q I (i σ H Q q)⟩
theorem pa_imp {X : Cx} {e : List Expr} {t t' : TA} (h : PA X e t) (i : ∀ σ H Q, t' σ H Q → t σ H Q) : PA X e t' := ⟨fun pos pins s σ H Q I q => h.run pos pins s σ H Q I (i σ H Q q)⟩
theorem ps_imp {X : Cx} {e : Stmt} {t t' : TS} (h : PS X e t) (i : ∀ E σ H, t' E σ H → t E σ H) : PS X e t' := ⟨fun pins s σ H E I q => h.run pins s σ H E I (i E σ H q)⟩
theorem pss_imp {X : Cx} {e : List Stmt} {t t' : TS} (h : PSs X e t) (i : ∀ E σ H, t' E σ H → t E σ H) : PSs X e t' := ⟨fun pins s σ H E I q => h.run pins s σ H E I (i E σ H q)⟩
section
variable {K : PySem.W.Frag} {W : WD} {C : C0} {l : Dl} {σ : St} {H G H' G' : Hp}
/-- a later look at the same wish -/
theorem EPost.later {q : R (D × Rw)} {Q : VK} (s : Gr C.r H G H' G') (h : EPost K W C l σ H G q Q) : EPost K W C l σ H' G' q Q := by
  cases q with
  | ok p => exact fun v H2 G2 S' s' r => h v H2 G2 S' (s.trans s') r
  | exc x w => exact h
  | stuck => exact h
theorem TPost.later {q : R (Bool × Rw)} {Q : Bool → Hp → Prop} (s : Gr C.r H G H' G') (h : TPost K W C l σ H G q Q) : TPost K W C l σ H' G' q Q := by
  cases q with
  | ok p => exact fun H2 G2 S' s' => h H2 G2 S' (s.trans s')
  | exc x w => exact h
  | stuck => exact h
theorem APost.later {q : R (List D × Rw)} {Q : List V → Hp → Prop} (s : Gr C.r H G H' G') (h : APost K W C l σ H G q Q) : APost K W C l σ H' G' q Q := by
  cases q with
  | ok p => exact fun v H2 G2 S' s' r => h v H2 G2 S' (s.trans s') r
  | exc x w => exact h
  | stuck => exact h
theorem OPost.later {q : R (D × Rw)} {Q : VK} (s : Gr C.r H G H' G') (h : OPost K W C l σ H G q Q) : OPost K W C l σ H' G' q Q := by
  cases q with
  | ok p => exact fun v H2 G2 S' s' f r => h v H2 G2 S' (s.trans s') (by
      cases e : H v with
      | none => rfl
      | some o => obtain ⟨o', z⟩ := s.t _ _ e; rw [f] at z; cases z) r
  | exc x w => exact h
  | stuck => exact h
end
/-! ### new things -/
def ObjD (K : PySem.W.Frag) (r : Option Addr) (G : Hp) : D → HO → Prop
  | .lst ds, o => ∃ vs, o = .lst vs ∧ vs.length ≤ sizeLine ∧ Reps K r G ds vs
  | .dic ks ds, o => ∃ kvs vs, o = .dK kvs ∧ kvs.length ≤ sizeLine ∧ kvs.map (·.1) = ks.map Sum.inl ∧ kvs.map (·.2) = vs ∧ Reps K r G ds vs
  | .tup ds, o => ∃ vs, o = .tup vs ∧ vs.length ≤ sizeLine ∧ Reps K r G ds vs
  | _, _ => False
section
variable {K : PySem.W.Frag} {W : WD} {C : C0} {l : Dl} {rw : Rw} {σ : St} {H G H' G' : Hp} {d : D} {o : HO} {p : Addr} {v : V}
theorem ObjD.rep {r : Option Addr} (h : ObjD K r G d o) (hp : G p = none) : Rep K r (upd G p o) d (.ref p) := by
  have m : Same G (upd G p o) := fun a u e => by rw [upd_ne (ne_of_none e hp)]; exact e
  cases d with
  | lst ds => obtain ⟨vs, rfl, h1, h2⟩ := h; unfold Rep; exact ⟨p, vs, rfl, upd_same, h1, h2.mono m⟩
  | dic ks ds => obtain ⟨kvs, vs, rfl, h1, h2, h3, h4⟩ := h; unfold Rep; exact ⟨p, kvs, vs, rfl, upd_same, h1, h2, h3, h4.mono m⟩
  | tup ds => obtain ⟨vs, rfl, h1, h2⟩ := h; unfold Rep; exact ⟨p, vs, rfl, SqT.of upd_same, h1, h2.mono m⟩
  | _ => exact h.elim
theorem SR.h0none (S : SR K C l rw σ H G) (hp : H p = none) : C.H0 p = none ∧ C.r ≠ some p := by
  have hr : C.r ≠ some p := fun e => by
    have w := S.row
    unfold RowOk at w
    rw [e] at w
    cases rw with
    | none => exact w.elim
    | some x => obtain ⟨_, v, h2, _⟩ := w; rw [hp] at h2; cases h2
  refine ⟨?_, hr⟩
  cases e : C.H0 p with
  | none => rfl
  | some u => have := S.fr p u e hr; rw [hp] at this; cases this
theorem SR.gnone (S : SR K C l rw σ H G) (hp : H p = none) : G p = none := by
  cases e : G p with
  | none => rfl
  | some u => have := S.sub p u e; rw [hp] at this; cases this
def isLD : D → Bool
  | .lst _ => true
  | .dic _ _ => true
  | _ => false
theorem SR.ownNew (S : SR K C l rw σ H G) (hp : H p = none) (h : ObjD K C.r G d o) (hd : isLD d = true) : Own K C (upd H p o) G d (.ref p) := by
  obtain ⟨h0, hr⟩ := S.h0none hp
  refine ⟨p, rfl, S.gnone hp, h0, hr, ?_⟩
  cases d with
  | lst ds => obtain ⟨vs, rfl, h1, h2⟩ := h; exact ⟨vs, upd_same, h1, h2⟩
  | dic ks ds => obtain ⟨kvs, vs, rfl, h1, h2, h3, h4⟩ := h; exact ⟨kvs, vs, upd_same, h1, h2, h3, h4⟩
  | _ => cases hd
/-- an own thing is shown from now on -/
theorem Own.obj (h : Own K C H G d (.ref p)) : ∃ o, H p = some o ∧ ObjD K C.r G d o ∧ G p = none ∧ C.H0 p = none ∧ C.r ≠ some p ∧ isLD d = true ∧ ∀ ob u, o ≠ .frz ob u := by
  obtain ⟨q, e, h1, h2, h3, h4⟩ := h
  cases e
  cases d with
  | lst ds => obtain ⟨vs, a1, a2, a3⟩ := h4; exact ⟨_, a1, ⟨vs, rfl, a2, a3⟩, h1, h2, h3, rfl, fun _ _ z => nomatch z⟩
  | dic ks ds => obtain ⟨kvs, vs, a1, a2, a3, a4, a5⟩ := h4; exact ⟨_, a1, ⟨kvs, vs, rfl, a2, a3, a4, a5⟩, h1, h2, h3, rfl, fun _ _ z => nomatch z⟩
  | _ => exact h4.elim
theorem SR.freeze (S : SR K C l rw σ H G) (ho : H p = some o) (hg : G p = none) (h0 : C.H0 p = none) (hr : C.r ≠ some p) (nx : ∀ (i : Nat) e, l[i]? = some (.own e) → σ[i]? ≠ some (some (.ref p))) : SR K C l rw σ H (upd G p o) := by
  have m : Same G (upd G p o) := fun a u e => by rw [upd_ne (ne_of_none e hg)]; exact e
  refine ⟨fun a u e => ?_, S.fr, S.g0.trans m, fun a u e => ?_, S.len, fun i x e => ?_, S.ow, ?_⟩
  · by_cases h : a = p
    · subst h; rw [upd_same] at e; rw [ho]; exact e
    · rw [upd_ne h] at e; exact S.sub a u e
  · by_cases h : a = p
    · subst h; exact .inr h0
    · rw [upd_ne h] at e; exact S.gn a u e
  · obtain ⟨v, e1, e2⟩ := S.sl i x e
    refine ⟨v, e1, ?_⟩
    cases x with
    | no => trivial
    | val d => obtain ⟨u, e3, q⟩ := e2; exact ⟨u, e3, q.mono m⟩
    | own d =>
      obtain ⟨u, e3, q, a1, a2, a3, a4, a5⟩ := e2
      subst e3 a1
      have ne : q ≠ p := fun z => nx i d e (by rw [e1, z])
      refine ⟨_, rfl, q, rfl, by rw [upd_ne ne]; exact a2, a3, a4, ?_⟩
      cases d with
      | lst ds => obtain ⟨vs, b1, b2, b3⟩ := a5; exact ⟨vs, b1, b2, b3.mono m⟩
      | dic ks ds => obtain ⟨kvs, vs, b1, b2, b3, b4, b5⟩ := a5; exact ⟨kvs, vs, b1, b2, b3, b4, b5.mono m⟩
      | _ => exact a5.elim
  · have w := S.row
    unfold RowOk at w ⊢
    cases e : C.r with
    | none => rw [e] at w; cases rw <;> exact w
    | some a =>
      rw [e] at w
      cases rw with
      | none => exact w
      | some x =>
        obtain ⟨w1, v, w2, w3⟩ := w
        have ne : a ≠ p := fun z => hr (by rw [e, z])
        exact ⟨by rw [upd_ne ne]; exact w1, v, w2, w3.mono m⟩
end
end HD
end
section
/-! Rules of the data layer: expressions. -/
namespace HD
open PySem PySem.Spec L2
open PyProof.Rows hiding St

def ofO {α : Type} (o : Option α) (rw : Rw) : R (α × Rw) := match o with
  | some a => .ok (a, rw)
  | none => .stuck
def eBin (f : D → D → Option D) (g1 g2 : EM D) : EM D := fun l rw => (g1 l rw).bind fun p => (g2 l p.2).bind fun q => ofO (f p.1 q.1) q.2
def eUn (f : D → Option D) (g : EM D) : EM D := fun l rw => (g l rw).bind fun p => ofO (f p.1) p.2
def aNil : EM (List D) := fun _ rw => .ok ([], rw)
def aCons (g : EM D) (r : EM (List D)) : EM (List D) := fun l rw => (g l rw).bind fun p => (r l p.2).bind fun q => .ok (p.1 :: q.1, q.2)
def eArgs (f : List D → Option D) (g : EM (List D)) : EM D := fun l rw => (g l rw).bind fun p => ofO (f p.1) p.2
def eK (d : D) : EM D := fun _ rw => .ok (d, rw)
def eV (i : Nat) : EM D := fun l rw => match l[i]? with
  | some (.val d) => .ok (d, rw)
  | _ => .stuck
def toB (g : EM D) : EM Bool := fun l rw => (g l rw).bind fun p => match p.1 with
  | .bl b => .ok (b, p.2)
  | _ => .stuck
def eIf (c : EM Bool) (a b : EM D) : EM D := fun l rw => (c l rw).bind fun p => if p.1 = true then a l p.2 else b l p.2
def tAnd' (a b : EM Bool) : EM Bool := fun l rw => (a l rw).bind fun p => if p.1 = true then b l p.2 else .ok (false, p.2)
def tOr' (a b : EM Bool) : EM Bool := fun l rw => (a l rw).bind fun p => if p.1 = true then .ok (true, p.2) else b l p.2
def tNot' (a : EM Bool) : EM Bool := fun l rw => (a l rw).bind fun p => .ok (!p.1, p.2)
def vAnd (a b : EM D) : EM D := fun l rw => (a l rw).bind fun p => match p.1 with
  | .bl true => b l p.2
  | .bl false => .ok (.bl false, p.2)
  | _ => .stuck
def vOr (a b : EM D) : EM D := fun l rw => (a l rw).bind fun p => match p.1 with
  | .bl true => .ok (.bl true, p.2)
  | .bl false => b l p.2
  | _ => .stuck
def vNot (a : EM D) : EM D := fun l rw => (a l rw).bind fun p => match p.1 with
  | .bl b => .ok (.bl (!b), p.2)
  | _ => .stuck
/-- a < b < c -/
def eChain (f f' : D → D → Option D) (ga gb gc : EM D) : EM D := fun l rw => (ga l rw).bind fun p => (gb l p.2).bind fun q => match f p.1 q.1 with
  | some (.bl true) => (gc l q.2).bind fun t => ofO (f' q.1 t.1) t.2
  | some (.bl false) => .ok (.bl false, q.2)
  | _ => .stuck
def isNonD : D → Option D
  | .raw _ => none
  | .non => some (.bl true)
  | _ => some (.bl false)
def notNonD : D → Option D
  | .raw _ => none
  | .non => some (.bl false)
  | _ => some (.bl true)

/-! ### one thing, then the rest -/
section
variable {K : PySem.W.Frag} {W : WD} {C : C0} {l : Dl} {rw : Rw} {σ : St} {H G : Hp} {β : Type}
theorem seqD {g : EM D} {k : D × Rw → R β} {P : R β → Prop} {Q' : VK} (S : SR K C l rw σ H G) (hp : P ((g l rw).bind k)) (hx : ∀ x w, P (.exc x w) → ∀ H' G', SR K C l w σ H' G' → W x σ H') (hs : P .stuck → False)
    (f : ∀ d rw' v H' G', SR K C l rw' σ H' G' → Gr C.r H G H' G' → Rep K C.r G' d v → P (k (d, rw')) → Q' v H') : tD K W g σ H Q' := by
  refine ⟨C, l, rw, G, S, ?_⟩
  cases e1 : g l rw with
  | exc x w => rw [e1] at hp; exact hx x w hp
  | stuck => rw [e1] at hp; exact (hs hp).elim
  | ok p =>
    obtain ⟨d, rw'⟩ := p
    rw [e1] at hp
    exact fun v H' G' S' s r => f d rw' v H' G' S' s r hp
theorem seqO {g : EM D} {k : D × Rw → R β} {P : R β → Prop} {Q' : VK} (S : SR K C l rw σ H G) (hp : P ((g l rw).bind k)) (hx : ∀ x w, P (.exc x w) → ∀ H' G', SR K C l w σ H' G' → W x σ H') (hs : P .stuck → False)
    (f : ∀ d rw' p H' G', SR K C l rw' σ H' G' → Gr C.r H G H' G' → H p = none → Own K C H' G' d (.ref p) → P (k (d, rw')) → Q' (.ref p) H') : tO K W g σ H Q' := by
  refine ⟨C, l, rw, G, S, ?_⟩
  cases e1 : g l rw with
  | exc x w => rw [e1] at hp; exact hx x w hp
  | stuck => rw [e1] at hp; exact (hs hp).elim
  | ok p =>
    obtain ⟨d, rw'⟩ := p
    rw [e1] at hp
    exact fun p H' G' S' s f0 r => f d rw' p H' G' S' s f0 r hp
theorem seqT {g : EM Bool} {k : Bool × Rw → R β} {P : R β → Prop} {Q' : Bool → Hp → Prop} (S : SR K C l rw σ H G) (hp : P ((g l rw).bind k)) (hx : ∀ x w, P (.exc x w) → ∀ H' G', SR K C l w σ H' G' → W x σ H') (hs : P .stuck → False)
    (f : ∀ b rw' H' G', SR K C l rw' σ H' G' → Gr C.r H G H' G' → P (k (b, rw')) → Q' b H') : tT K W g σ H Q' := by
  refine ⟨C, l, rw, G, S, ?_⟩
  cases e1 : g l rw with
  | exc x w => rw [e1] at hp; exact hx x w hp
  | stuck => rw [e1] at hp; exact (hs hp).elim
  | ok p =>
    obtain ⟨d, rw'⟩ := p
    rw [e1] at hp
    exact fun H' G' S' s => f d rw' H' G' S' s hp
theorem seqA {g : EM (List D)} {k : List D × Rw → R β} {P : R β → Prop} {Q' : List V → Hp → Prop} (S : SR K C l rw σ H G) (hp : P ((g l rw).bind k)) (hx : ∀ x w, P (.exc x w) → ∀ H' G', SR K C l w σ H' G' → W x σ H') (hs : P .stuck → False)
    (f : ∀ ds rw' vs H' G', SR K C l rw' σ H' G' → Gr C.r H G H' G' → Reps K C.r G' ds vs → P (k (ds, rw')) → Q' vs H') : tA K W g σ H Q' := by
  refine ⟨C, l, rw, G, S, ?_⟩
  cases e1 : g l rw with
  | exc x w => rw [e1] at hp; exact hx x w hp
  | stuck => rw [e1] at hp; exact (hs hp).elim
  | ok p =>
    obtain ⟨d, rw'⟩ := p
    rw [e1] at hp
    exact fun vs H' G' S' s r => f d rw' vs H' G' S' s r hp
end
abbrev PEq (K : PySem.W.Frag) (W : WD) (C : C0) (l : Dl) (σ : St) (H G : Hp) (Q : VK) : R (D × Rw) → Prop := fun q => EPost K W C l σ H G q Q
abbrev PTq (K : PySem.W.Frag) (W : WD) (C : C0) (l : Dl) (σ : St) (H G : Hp) (Q : Bool → Hp → Prop) : R (Bool × Rw) → Prop := fun q => TPost K W C l σ H G q Q
abbrev PAq (K : PySem.W.Frag) (W : WD) (C : C0) (l : Dl) (σ : St) (H G : Hp) (Q : List V → Hp → Prop) : R (List D × Rw) → Prop := fun q => APost K W C l σ H G q Q
abbrev POq (K : PySem.W.Frag) (W : WD) (C : C0) (l : Dl) (σ : St) (H G : Hp) (Q : VK) : R (D × Rw) → Prop := fun q => OPost K W C l σ H G q Q
abbrev PSq (K : PySem.W.Frag) (W : WD) (own : Bool) (C : C0) (E : Ends) : R (Fl × Dl × Rw) → Prop := fun q => SPost K W own C q E

section
variable {X : Cx} {W : WD}

/-! ### values of two values: what an operator's rule gives -/
def OpD (K : PySem.W.Frag) (r : R2) (f : D → D → Option D) : Prop := ∀ (o : Option Addr) (G H : Hp) (d1 d2 : D) (v1 v2 : V) (d : D) (Q : VK), Same G H → Rep K o G d1 v1 → Rep K o G d2 v2 → f d1 d2 = some d →
  (∀ v H' G', Same H H' → Gr o H G H' G' → Rep K o G' d v → Q v H') → r v1 v2 H Q
/-- .. that lays nothing -/
def CmpD (K : PySem.W.Frag) (r : R2) (f : D → D → Option D) : Prop := ∀ (o : Option Addr) (G H : Hp) (d1 d2 : D) (v1 v2 : V) (d : D) (Q : VK), Same G H → Rep K o G d1 v1 → Rep K o G d2 v2 → f d1 d2 = some d →
  (∀ v, Rep K o G d v → Q v H) → r v1 v2 H Q
theorem CmpD.op {K : PySem.W.Frag} {r : R2} {f : D → D → Option D} (h : CmpD K r f) : OpD K r f := fun o G H d1 d2 v1 v2 d Q s r1 r2 e q => h o G H d1 d2 v1 v2 d Q s r1 r2 e fun v rv => q v H G (Same.refl _) (Gr.refl s) rv
def UnD (K : PySem.W.Frag) (r : V → Hp → VK → Prop) (f : D → Option D) : Prop := ∀ (o : Option Addr) (G H : Hp) (d1 : D) (v1 : V) (d : D) (Q : VK), Same G H → Rep K o G d1 v1 → f d1 = some d →
  (∀ v H' G', Same H H' → Gr o H G H' G' → Rep K o G' d v → Q v H') → r v1 H Q
def ArD (K : PySem.W.Frag) (r : List V → Hp → VK → Prop) (f : List D → Option D) : Prop := ∀ (o : Option Addr) (G H : Hp) (ds : List D) (vs : List V) (d : D) (Q : VK), Same G H → Reps K o G ds vs → f ds = some d →
  (∀ v H' G', Same H H' → Gr o H G H' G' → Rep K o G' d v → Q v H') → r vs H Q
/-- a built-in that lays a new list (or dict) -/
def ArN (K : PySem.W.Frag) (r : List V → Hp → VK → Prop) (f : List D → Option D) : Prop := ∀ (o : Option Addr) (G H : Hp) (ds : List D) (vs : List V) (d : D) (Q : VK), Same G H → Reps K o G ds vs → f ds = some d →
  isLD d = true ∧ ((∀ p H1 ob, Same H H1 → H1 p = none → ObjD K o G d ob → Q (.ref p) (upd H1 p ob)) → r vs H Q)

theorem red2 {r : R2} {f : D → D → Option D} {ga gb : EM D} (h : OpD X.K r f) : ∀ σ H Q, tD X.K W (eBin f ga gb) σ H Q → tOp r (tD X.K W ga) (tD X.K W gb) σ H Q := by
  intro σ H Q hq
  obtain ⟨C, l, rw, G, S, hp⟩ := hq
  refine seqD (P := PEq X.K W C l σ H G Q) S hp (fun _ _ z => z) (fun z => z) fun d1 rw1 v1 H1 G1 S1 s1 r1 h1 => ?_
  refine seqD (P := PEq X.K W C l σ H G Q) S1 h1 (fun _ _ z => z) (fun z => z) fun d2 rw2 v2 H2 G2 S2 s2 r2 h2 => ?_
  dsimp only [PEq] at h2
  cases e3 : f d1 d2 with
  | none => rw [e3] at h2; exact h2.elim
  | some d =>
    rw [e3] at h2
    exact h C.r G2 H2 d1 d2 v1 v2 d Q S2.sub (r1.mono s2.g) r2 e3 fun v H' G' sh g r => h2 v H' G' (S2.grow0 sh g) ((s1.trans s2).trans g) r
theorem de_op {op : Operator} {r : R2} {f : D → D → Option D} {a b : Expr} {ga gb : EM D} {pos : Pos} (ho : OpR X (binaryOp op) r) (h : OpD X.K r f) (ha : DE X W a ga) (hb : DE X W b gb) : DE X W (.BinOp a op b pos) (eBin f ga gb) := pe_imp (pe_op ho ha hb) (red2 h)
theorem de_cmp {op : CmpOp} {r : R2} {f : D → D → Option D} {a b : Expr} {ga gb : EM D} {pos : Pos} (ho : OpR X (compareOp op) r) (h : OpD X.K r f) (ha : DE X W a ga) (hb : DE X W b gb) (hm : behindInMarks op b = false) : DE X W (.Compare a [op] [b] pos) (eBin f ga gb) := pe_imp (pe_cmpR ho ha hb hm) (red2 h)
theorem de_ix {r : R2} {f : D → D → Option D} {a b : Expr} {ga gb : EM D} {pos : Pos} (ho : IxR X r) (h : OpD X.K r f) (ha : DE X W a ga) (hb : DE X W b gb) (hs : PlainIx b) : DE X W (.Subscript a b pos) (eBin f ga gb) := pe_imp (pe_ix ho ha hb hs) (red2 h)
theorem de_un {op : UnaryOp} {r : V → Hp → VK → Prop} {f : D → Option D} {a : Expr} {g : EM D} {pos : Pos} (ho : UnR X (unaryOp op) r) (h : UnD X.K r f) (ha : DE X W a g) : DE X W (.UnaryOp op a pos) (eUn f g) := by
  refine pe_imp (pe_un ho ha) fun σ H Q hq => ?_
  obtain ⟨C, l, rw, G, S, hp⟩ := hq
  refine seqD (P := PEq X.K W C l σ H G Q) S hp (fun _ _ z => z) (fun z => z) fun d1 rw1 v1 H1 G1 S1 s1 r1 h1 => ?_
  dsimp only [PEq] at h1
  cases e3 : f d1 with
  | none => rw [e3] at h1; exact h1.elim
  | some d =>
    rw [e3] at h1
    exact h C.r G1 H1 d1 v1 d Q S1.sub r1 e3 fun v H' G' sh g r => h1 v H' G' (S1.grow0 sh g) (s1.trans g) r

/-! ### names, constants -/
theorem de_var {i : Nat} {x : Str} {pos : Pos} (h : PE X (.Name x pos) (tVar i)) : DE X W (.Name x pos) (eV i) := by
  refine pe_imp h fun σ H Q hq => ?_
  obtain ⟨C, l, rw, G, S, hp⟩ := hq
  unfold eV at hp
  cases e : l[i]? with
  | none => rw [e] at hp; exact hp.elim
  | some x =>
    rw [e] at hp
    cases x with
    | no => exact hp.elim
    | own d => exact hp.elim
    | val d =>
      obtain ⟨v, e1, u, e2, r⟩ := S.sl i _ e
      subst e2
      exact ⟨u, e1, hp u H G S (Gr.refl S.sub) r⟩
theorem de_k {e : Expr} {v : V} {d : D} (h : PE X e (tC v)) (r : ∀ o G, Rep X.K o G d v) : DE X W e (eK d) := by
  refine pe_imp h fun σ H Q hq => ?_
  obtain ⟨C, l, rw, G, S, hp⟩ := hq
  exact hp v H G S (Gr.refl S.sub) (r _ _)
theorem de_int {i j pos} : DE X W (.Constant (.int i) j pos) (eK (.int i)) := de_k pe_int fun _ _ => by unfold Rep; rfl
theorem de_bl {b j pos} : DE X W (.Constant (.bool b) j pos) (eK (.bl b)) := de_k pe_bl fun _ _ => by unfold Rep; rfl
theorem de_non {j pos} : DE X W (.Constant .none j pos) (eK .non) := de_k pe_non fun _ _ => by unfold Rep; rfl
theorem de_str {x j pos} : DE X W (.Constant (.str x) j pos) (eK (.str x)) := de_k pe_str fun _ _ => by unfold Rep; rfl
/-- a module's constant: a number -/
theorem de_gint {x : Str} {i : Int} {pos : Pos} (hg : Gl X x) (hm : ∃ t, X.mg x = some (.int i t)) (hd : (x == ("__debug__" : Str)) = false := by decide) : DE X W (.Name x pos) (eK (.int i)) := by
  obtain ⟨t, hm⟩ := hm
  exact de_k (v := .int i) (pe_glob hg hm ⟨t, rfl⟩ hd) fun _ _ => by unfold Rep; rfl
theorem de_gstr {x z : Str} {pos : Pos} (hg : Gl X x) (hm : ∃ t, X.mg x = some (.str z t)) (hd : (x == ("__debug__" : Str)) = false := by decide) : DE X W (.Name x pos) (eK (.str z)) := by
  obtain ⟨t, hm⟩ := hm
  exact de_k (v := .str z) (pe_glob hg hm ⟨t, rfl⟩ hd) fun _ _ => by unfold Rep; rfl
theorem de_gref {x : Str} {a : Addr} {d : D} {pos : Pos} (hg : Gl X x) (hm : X.mg x = some (.ref a)) (r : ∀ o G, Rep X.K o G d (.ref a)) (hd : (x == ("__debug__" : Str)) = false := by decide) : DE X W (.Name x pos) (eK d) :=
  de_k (v := .ref a) (pe_glob hg hm rfl hd) r
theorem de_gty {x : Str} {n : String} {pos : Pos} (hg : Gl X x) (hm : X.mg x = none) (hv : bootBuiltins x = some (.type n)) (hn : x ≠ "__name__" := by decide) (hd : (x == ("__debug__" : Str)) = false := by decide) : DE X W (.Name x pos) (eK (.raw (.ty n))) :=
  de_k (v := .ty n) (pe_bltn hg hm hv rfl hn hd) fun _ _ => by unfold Rep; rfl

/-! ### argument lists, displays -/
theorem da_nil : DA X W [] aNil := by
  refine pa_imp pa_nil fun σ H Q hq => ?_
  obtain ⟨C, l, rw, G, S, hp⟩ := hq
  exact hp [] H G S (Gr.refl S.sub) Reps.nil
theorem da_cons {e : Expr} {es : List Expr} {g : EM D} {r : EM (List D)} (ha : DE X W e g) (hr : DA X W es r) (hs : starEach (e :: es) X.env = (false, eval e X.env) :: starEach es X.env := by rfl) : DA X W (e :: es) (aCons g r) := by
  refine pa_imp (pa_cons ha hr hs) fun σ H Q hq => ?_
  obtain ⟨C, l, rw, G, S, hp⟩ := hq
  refine seqD (P := PAq X.K W C l σ H G Q) S hp (fun _ _ z => z) (fun z => z) fun d1 rw1 v1 H1 G1 S1 s1 r1 h1 => ?_
  refine seqA (P := PAq X.K W C l σ H G Q) S1 h1 (fun _ _ z => z) (fun z => z) fun ds rw2 vs H2 G2 S2 s2 r2 h2 => ?_
  exact h2 (v1 :: vs) H2 G2 S2 (s1.trans s2) (Reps.cons (r1.mono s2.g) r2)
/-- (a, b, ..) -/
def eTup (g : EM (List D)) : EM D := eArgs (fun ds => if ds.length ≤ sizeLine then some (.tup ds) else none) g
theorem de_tup {es : List Expr} {k : Nat} {g : EM (List D)} {pos : Pos} (h : DA X W es g) : DE X W (.Tuple es k pos) (eTup g) := by
  refine pe_imp (pe_tup h) fun σ H Q hq => ?_
  obtain ⟨C, l, rw, G, S, hp⟩ := hq
  refine seqA (P := PEq X.K W C l σ H G Q) S hp (fun _ _ z => z) (fun z => z) fun ds rw1 vs H1 G1 S1 s1 r1 h1 => ?_
  dsimp only [PEq] at h1
  have hl := r1.length
  by_cases hz : ds.length ≤ sizeLine
  · rw [if_pos hz] at h1
    refine ⟨by rw [← hl]; exact hz, fun p hp' => ?_⟩
    exact h1 (.ref p) _ _ (S1.new hp') (s1.trans (Gr.new S1.sub hp')) (ObjD.rep ⟨vs, rfl, by rw [← hl]; exact hz, r1⟩ (S1.gnone hp'))
  · rw [if_neg hz] at h1; exact h1.elim
/-- [a, b, ..], a new list -/
def eLst (g : EM (List D)) : EM D := eArgs (fun ds => if ds.length ≤ sizeLine then some (.lst ds) else none) g
theorem do_lst {es : List Expr} {g : EM (List D)} {pos : Pos} (h : DA X W es g) : DO X W (.List es pos) (eLst g) := by
  refine pe_imp (pe_lst h) fun σ H Q hq => ?_
  obtain ⟨C, l, rw, G, S, hp⟩ := hq
  refine seqA (P := POq X.K W C l σ H G Q) S hp (fun _ _ z => z) (fun z => z) fun ds rw1 vs H1 G1 S1 s1 r1 h1 => ?_
  dsimp only [POq] at h1
  have hl := r1.length
  by_cases hz : ds.length ≤ sizeLine
  · rw [if_pos hz] at h1
    refine ⟨by rw [← hl]; exact hz, fun p hp' => ?_⟩
    refine h1 p _ _ (S1.newO hp') (s1.trans (Gr.newO S1.sub hp')) ?_ (S1.ownNew hp' ⟨vs, rfl, by rw [← hl]; exact hz, r1⟩ rfl)
    cases e : H p with
    | none => rfl
    | some o => obtain ⟨o', z⟩ := s1.t _ _ e; rw [hp'] at z; cases z
  · rw [if_neg hz] at h1; exact h1.elim
/-- a new thing, shown at once -/
theorem de_of {e : Expr} {g : EM D} (h : DO X W e g) : DE X W e g := by
  refine pe_imp h fun σ H Q hq => ?_
  obtain ⟨C, l, rw, G, S, hp⟩ := hq
  refine ⟨C, l, rw, G, S, ?_⟩
  cases e1 : g l rw with
  | exc x w => rw [e1] at hp; exact hp
  | stuck => rw [e1] at hp; exact hp
  | ok p =>
    obtain ⟨d, rw'⟩ := p
    rw [e1] at hp
    intro p H' G' S' s f ow
    obtain ⟨o, ho, hob, hg, h0, hr, _, _⟩ := ow.obj
    have nx : ∀ (i : Nat) e, l[i]? = some (.own e) → σ[i]? ≠ some (some (.ref p)) := fun i e hi hz => by
      obtain ⟨v, e1, u, e2, q, e3, a1, a2, a3, a4⟩ := S.sl i _ hi
      rw [hz] at e1; cases e1; cases e2; cases e3
      cases e with
      | lst ds => obtain ⟨vs, b, _⟩ := a4; rw [f] at b; cases b
      | dic ks ds => obtain ⟨kvs, vs, b, _⟩ := a4; rw [f] at b; cases b
      | _ => exact a4.elim
    refine hp (.ref p) H' (upd G' p o) (S'.freeze ho hg h0 hr nx) ?_ (hob.rep hg)
    have m : Same G' (upd G' p o) := fun a u e => by rw [upd_ne (ne_of_none e hg)]; exact e
    exact ⟨s.h, s.g.trans m, fun a u e => by
      by_cases ha : a = p
      · exact .inr (ha ▸ f)
      · rw [upd_ne ha] at e; exact s.n a u e, fun a u e => by
      by_cases ha : a = p
      · subst ha; rw [upd_same] at e; rw [ho]; exact e
      · rw [upd_ne ha] at e; exact s.s a u e, s.t⟩

/-! ### a built-in called -/
theorem redA {r : List V → Hp → VK → Prop} {f : List D → Option D} {g : EM (List D)} (h : ArD X.K r f) : ∀ σ H Q, tD X.K W (eArgs f g) σ H Q → tCB r (tA X.K W g) σ H Q := by
  intro σ H Q hq
  obtain ⟨C, l, rw, G, S, hp⟩ := hq
  refine seqA (P := PEq X.K W C l σ H G Q) S hp (fun _ _ z => z) (fun z => z) fun ds rw1 vs H1 G1 S1 s1 r1 h1 => ?_
  dsimp only [PEq] at h1
  cases e3 : f ds with
  | none => rw [e3] at h1; exact h1.elim
  | some d =>
    rw [e3] at h1
    exact h C.r G1 H1 ds vs d Q S1.sub r1 e3 fun v H' G' sh g r => h1 v H' G' (S1.grow0 sh g) (s1.trans g) r
theorem redN {r : List V → Hp → VK → Prop} {f : List D → Option D} {g : EM (List D)} (h : ArN X.K r f) : ∀ σ H Q, tO X.K W (eArgs f g) σ H Q → tCB r (tA X.K W g) σ H Q := by
  intro σ H Q hq
  obtain ⟨C, l, rw, G, S, hp⟩ := hq
  refine seqA (P := POq X.K W C l σ H G Q) S hp (fun _ _ z => z) (fun z => z) fun ds rw1 vs H1 G1 S1 s1 r1 h1 => ?_
  dsimp only [POq] at h1
  cases e3 : f ds with
  | none => rw [e3] at h1; exact h1.elim
  | some d =>
    rw [e3] at h1
    obtain ⟨hd, k⟩ := h C.r G1 H1 ds vs d Q S1.sub r1 e3
    refine k fun p H2 ob sh hp' hob => ?_
    have g2 : Gr C.r H1 G1 H2 G1 := ⟨fun a o e _ => sh a o e, Same.refl _, fun a o e => .inl e, fun a o e => sh a o (S1.sub a o e), fun a o e => ⟨o, sh a o e⟩⟩
    have S2 := S1.grow0 sh g2
    refine h1 p _ _ (S2.newO hp') ((s1.trans g2).trans (Gr.newO S2.sub hp')) ?_ (S2.ownNew hp' hob hd)
    cases e : H p with
    | none => rfl
    | some o => obtain ⟨o', z⟩ := (s1.trans g2).t _ _ e; rw [hp'] at z; cases z
section
variable {x : Str} {p pos : Pos} {e : Expr} {es : List Expr} {id T : String} {r : List V → Hp → VK → Prop} {f : List D → Option D} {g : EM (List D)}
theorem de_bi (hc : CallR X (.builtin id) r) (h : ArD X.K r f) (hg : Gl X x) (hm : X.mg x = none) (hv : bootBuiltins x = some (.builtin id)) (ha : DA X W (e :: es) g)
    (hn : x ≠ "__name__" := by decide) (hdb : (x == ("__debug__" : Str)) = false := by decide) (he : starEach (e :: es) X.env = (false, eval e X.env) :: starEach es X.env := by rfl) (hpl : (backTo pos (starEach es X.env)).any (·.1) = false := by rfl) :
    DE X W (.Call (.Name x p) (e :: es) [] pos) (eArgs f g) := pe_imp (pe_callB hc hg hm hv ha hn hdb he hpl) (redA h)
theorem de_bt (hc : CallR X (.type T) r) (h : ArD X.K r f) (hg : Gl X x) (hm : X.mg x = none) (hv : bootBuiltins x = some (.type T)) (ha : DA X W (e :: es) g)
    (hn : x ≠ "__name__" := by decide) (hdb : (x == ("__debug__" : Str)) = false := by decide) (he : starEach (e :: es) X.env = (false, eval e X.env) :: starEach es X.env := by rfl) (hpl : (backTo pos (starEach es X.env)).any (·.1) = false := by rfl) :
    DE X W (.Call (.Name x p) (e :: es) [] pos) (eArgs f g) := pe_imp (pe_callTy hc hg hm hv ha hn hdb he hpl) (redA h)
theorem do_bi (hc : CallR X (.builtin id) r) (h : ArN X.K r f) (hg : Gl X x) (hm : X.mg x = none) (hv : bootBuiltins x = some (.builtin id)) (ha : DA X W (e :: es) g)
    (hn : x ≠ "__name__" := by decide) (hdb : (x == ("__debug__" : Str)) = false := by decide) (he : starEach (e :: es) X.env = (false, eval e X.env) :: starEach es X.env := by rfl) (hpl : (backTo pos (starEach es X.env)).any (·.1) = false := by rfl) :
    DO X W (.Call (.Name x p) (e :: es) [] pos) (eArgs f g) := pe_imp (pe_callB hc hg hm hv ha hn hdb he hpl) (redN h)
theorem do_bt (hc : CallR X (.type T) r) (h : ArN X.K r f) (hg : Gl X x) (hm : X.mg x = none) (hv : bootBuiltins x = some (.type T)) (ha : DA X W (e :: es) g)
    (hn : x ≠ "__name__" := by decide) (hdb : (x == ("__debug__" : Str)) = false := by decide) (he : starEach (e :: es) X.env = (false, eval e X.env) :: starEach es X.env := by rfl) (hpl : (backTo pos (starEach es X.env)).any (·.1) = false := by rfl) :
    DO X W (.Call (.Name x p) (e :: es) [] pos) (eArgs f g) := pe_imp (pe_callTy hc hg hm hv ha hn hdb he hpl) (redN h)
end

/-! ### tests -/
theorem redB {g : EM D} : ∀ σ H Q, tT X.K W (toB g) σ H Q → tB (tD X.K W g) σ H Q := by
  intro σ H Q hq
  obtain ⟨C, l, rw, G, S, hp⟩ := hq
  refine seqD (P := PTq X.K W C l σ H G Q) S hp (fun _ _ z => z) (fun z => z) fun d rw1 v H1 G1 S1 s1 r1 h1 => ?_
  cases d with
  | bl b =>
    unfold Rep at r1
    exact ⟨b, r1, h1 H1 G1 S1 s1⟩
  | _ => exact h1.elim
theorem dt_of {e : Expr} {g : EM D} (h : DE X W e g) (he : ∀ whole, isTrue e X.env whole = (do let v ← whole; standAt e.pos; holding [v] (truthy v)) := by intro _; rfl) : DT X W e (toB g) := pt_imp (pt_val h he) redB
theorem dt_op {op : CmpOp} {r : R2} {f : D → D → Option D} {a b : Expr} {ga gb : EM D} {pos : Pos} (ho : OpR X (compareOp op) r) (h : OpD X.K r f) (ha : DE X W a ga) (hb : DE X W b gb) (hm : behindInMarks op b = false) : DT X W (.Compare a [op] [b] pos) (toB (eBin f ga gb)) := by
  refine pt_imp (pt_cmpR ho ha hb hm) fun σ H Q hq => ?_
  have h1 := redB σ H Q hq
  exact red2 h σ H _ h1
theorem dt_pc {op : CmpOp} {a b : Expr} {g : EM D} {t : TE} {pos : Pos} (h : PC X op a b t) (i : ∀ σ H Q, tD X.K W g σ H Q → t σ H Q) (h1 : behindInMarks op b = false := by first | exact nobehind _ (by decide) (by decide) | rfl) : DT X W (.Compare a [op] [b] pos) (toB g) := by
  refine pt_imp (pt_cmp h h1) fun σ H Q hq => ?_
  exact i _ _ _ (redB σ H Q hq)
theorem redC {r r' : R2} {f f' : D → D → Option D} {ga gb gc : EM D} (hf : CmpD X.K r f) (hf' : OpD X.K r' f') : ∀ σ H Q, tD X.K W (eChain f f' ga gb gc) σ H Q → tChain r r' (tD X.K W ga) (tD X.K W gb) (tD X.K W gc) σ H Q := by
  intro σ H Q hq
  obtain ⟨C, l, rw, G, S, hp⟩ := hq
  refine seqD (P := PEq X.K W C l σ H G Q) S hp (fun _ _ z => z) (fun z => z) fun d1 rw1 v1 H1 G1 S1 s1 r1 h1 => ?_
  refine seqD (P := PEq X.K W C l σ H G Q) S1 h1 (fun _ _ z => z) (fun z => z) fun d2 rw2 v2 H2 G2 S2 s2 r2 h2 => ?_
  dsimp only [PEq] at h2
  cases e : f d1 d2 with
  | none => rw [e] at h2; exact h2.elim
  | some d =>
    rw [e] at h2
    refine hf C.r G2 H2 d1 d2 v1 v2 d _ S2.sub (r1.mono s2.g) r2 e fun v rv => ?_
    cases d with
    | bl k =>
      unfold Rep at rv
      refine ⟨k, rv, ?_⟩
      cases k with
      | false => exact iteF (h2 (.bl false) H2 G2 S2 (s1.trans s2) (by unfold Rep; rfl))
      | true =>
        dsimp only at h2
        refine iteT ?_
        refine seqD (P := PEq X.K W C l σ H G Q) S2 h2 (fun _ _ z => z) (fun z => z) fun d3 rw3 v3 H3 G3 S3 s3 r3 h3 => ?_
        dsimp only [PEq] at h3
        cases e3 : f' d2 d3 with
        | none => rw [e3] at h3; exact h3.elim
        | some d =>
          rw [e3] at h3
          exact hf' C.r G3 H3 d2 d3 v2 v3 d Q S3.sub (r2.mono s3.g) r3 e3 fun v H' G' sh g r => h3 v H' G' (S3.grow0 sh g) (((s1.trans s2).trans s3).trans g) r
    | _ => exact h2.elim
theorem de_chain {op op' : CmpOp} {r r' : R2} {f f' : D → D → Option D} {a b c : Expr} {ga gb gc : EM D} {pos : Pos} (ho : OpR X (compareOp op) r) (ho' : OpR X (compareOp op') r') (hf : CmpD X.K r f) (hf' : OpD X.K r' f') (ha : DE X W a ga) (hb : DE X W b gb) (hc : DE X W c gc)
    (hm : lastMarks [op, op'] [b, c] = false := by with_unfolding_all rfl) : DE X W (.Compare a [op, op'] [b, c] pos) (eChain f f' ga gb gc) := pe_imp (pe_chain ho ho' ha hb hc hm) (redC hf hf')
theorem dt_chain {op op' : CmpOp} {r r' : R2} {f f' : D → D → Option D} {a b c : Expr} {ga gb gc : EM D} {pos : Pos} (ho : OpR X (compareOp op) r) (ho' : OpR X (compareOp op') r') (hf : CmpD X.K r f) (hf' : OpD X.K r' f') (ha : DE X W a ga) (hb : DE X W b gb) (hc : DE X W c gc)
    (hm : lastMarks [op, op'] [b, c] = false := by with_unfolding_all rfl) : DT X W (.Compare a [op, op'] [b, c] pos) (toB (eChain f f' ga gb gc)) := pt_imp (pt_chain ho ho' ha hb hc hm) fun σ H Q hq => redC hf hf' σ H _ (redB σ H Q hq)
/-! ### and, or, not, if -/
abbrev DW (X : Cx) (W : WD) (e : Expr) (g : EM Bool) : Prop := PW X e (tT X.K W g)
theorem dw_and1 {a : Expr} {pos : Pos} {g : EM Bool} (h : DT X W a g) : DW X W (.BoolOp .And [a] pos) g := pw_and1 h
theorem dw_or1 {a : Expr} {pos : Pos} {g : EM Bool} (h : DT X W a g) : DW X W (.BoolOp .Or [a] pos) g := pw_or1 h
theorem dw_and {a b : Expr} {rest : List Expr} {pos : Pos} {ga gb : EM Bool} (ha : DT X W a ga) (hb : DW X W (.BoolOp .And (b :: rest) pos) gb) : DW X W (.BoolOp .And (a :: b :: rest) pos) (tAnd' ga gb) := by
  refine pw_imp (pw_and ha hb) fun σ H Q hq => ?_
  obtain ⟨C, l, rw, G, S, hp⟩ := hq
  refine seqT (P := PTq X.K W C l σ H G Q) S hp (fun _ _ z => z) (fun z => z) fun b rw1 H1 G1 S1 s1 h1 => ?_
  cases b with
  | true => exact iteT ⟨C, l, rw1, G1, S1, TPost.later s1 h1⟩
  | false => exact iteF (h1 H1 G1 S1 s1)
theorem dw_or {a b : Expr} {rest : List Expr} {pos : Pos} {ga gb : EM Bool} (ha : DT X W a ga) (hb : DW X W (.BoolOp .Or (b :: rest) pos) gb) : DW X W (.BoolOp .Or (a :: b :: rest) pos) (tOr' ga gb) := by
  refine pw_imp (pw_or ha hb) fun σ H Q hq => ?_
  obtain ⟨C, l, rw, G, S, hp⟩ := hq
  refine seqT (P := PTq X.K W C l σ H G Q) S hp (fun _ _ z => z) (fun z => z) fun b rw1 H1 G1 S1 s1 h1 => ?_
  cases b with
  | true => exact iteT (h1 H1 G1 S1 s1)
  | false => exact iteF ⟨C, l, rw1, G1, S1, TPost.later s1 h1⟩
theorem dt_not {a : Expr} {pos : Pos} {g : EM Bool} (h : DT X W a g) : DT X W (.UnaryOp .Not a pos) (tNot' g) := by
  refine pt_imp (pt_not h) fun σ H Q hq => ?_
  obtain ⟨C, l, rw, G, S, hp⟩ := hq
  exact seqT (P := PTq X.K W C l σ H G Q) S hp (fun _ _ z => z) (fun z => z) fun b rw1 H1 G1 S1 s1 h1 => h1 H1 G1 S1 s1
theorem de_one {op : BoolOp} {a : Expr} {pos : Pos} {g : EM D} (h : DE X W a g) : DE X W (.BoolOp op [a] pos) g := pe_one h
theorem de_and {a b : Expr} {rest : List Expr} {pos : Pos} {ga gb : EM D} (ha : DE X W a ga) (hb : DE X W (.BoolOp .And (b :: rest) pos) gb) : DE X W (.BoolOp .And (a :: b :: rest) pos) (vAnd ga gb) := by
  refine pe_imp (pe_and ha hb) fun σ H Q hq => ?_
  obtain ⟨C, l, rw, G, S, hp⟩ := hq
  refine seqD (P := PEq X.K W C l σ H G Q) S hp (fun _ _ z => z) (fun z => z) fun d rw1 v H1 G1 S1 s1 r1 h1 => ?_
  cases d with
  | bl b =>
    unfold Rep at r1
    refine ⟨b, r1, ?_⟩
    cases b with
    | true => exact iteT ⟨C, l, rw1, G1, S1, EPost.later s1 h1⟩
    | false => exact iteF (h1 (.bl false) H1 G1 S1 s1 (by unfold Rep; rfl))
  | _ => exact h1.elim
theorem de_or {a b : Expr} {rest : List Expr} {pos : Pos} {ga gb : EM D} (ha : DE X W a ga) (hb : DE X W (.BoolOp .Or (b :: rest) pos) gb) : DE X W (.BoolOp .Or (a :: b :: rest) pos) (vOr ga gb) := by
  refine pe_imp (pe_or ha hb) fun σ H Q hq => ?_
  obtain ⟨C, l, rw, G, S, hp⟩ := hq
  refine seqD (P := PEq X.K W C l σ H G Q) S hp (fun _ _ z => z) (fun z => z) fun d rw1 v H1 G1 S1 s1 r1 h1 => ?_
  cases d with
  | bl b =>
    unfold Rep at r1
    refine ⟨b, r1, ?_⟩
    cases b with
    | true => exact iteT (h1 (.bl true) H1 G1 S1 s1 (by unfold Rep; rfl))
    | false => exact iteF ⟨C, l, rw1, G1, S1, EPost.later s1 h1⟩
  | _ => exact h1.elim
theorem de_not {a : Expr} {pos : Pos} {g : EM D} (h : DE X W a g) : DE X W (.UnaryOp .Not a pos) (vNot g) := by
  refine pe_imp (pe_not h) fun σ H Q hq => ?_
  obtain ⟨C, l, rw, G, S, hp⟩ := hq
  refine seqD (P := PEq X.K W C l σ H G Q) S hp (fun _ _ z => z) (fun z => z) fun d rw1 v H1 G1 S1 s1 r1 h1 => ?_
  cases d with
  | bl b =>
    unfold Rep at r1
    exact ⟨b, r1, h1 (.bl (!b)) H1 G1 S1 s1 (by unfold Rep; rfl)⟩
  | _ => exact h1.elim
theorem de_if {c a b : Expr} {pos : Pos} {gc : EM Bool} {ga gb : EM D} (hc : DT X W c gc) (ha : DE X W a ga) (hb : DE X W b gb) : DE X W (.IfExp c a b pos) (eIf gc ga gb) := by
  refine pe_imp (pe_ifExp hc ha hb) fun σ H Q hq => ?_
  obtain ⟨C, l, rw, G, S, hp⟩ := hq
  refine seqT (P := PEq X.K W C l σ H G Q) S hp (fun _ _ z => z) (fun z => z) fun b rw1 H1 G1 S1 s1 h1 => ?_
  cases b with
  | true => exact iteT ⟨C, l, rw1, G1, S1, EPost.later s1 h1⟩
  | false => exact iteF ⟨C, l, rw1, G1, S1, EPost.later s1 h1⟩
/-! ### is None -/
theorem Rep.isNon {K : PySem.W.Frag} {o : Option Addr} {G : Hp} {d : D} {v : V} {e : D} (r : Rep K o G d v) (h : isNonD d = some e) : e = .bl (decide (v = .non)) := by
  cases d <;> unfold isNonD at h <;> unfold Rep at r
  case raw => cases h
  case non => subst r; cases h; rfl
  case row => obtain ⟨a, _, rfl⟩ := r; cases h; rfl
  case tup => obtain ⟨a, _, rfl, _⟩ := r; cases h; rfl
  case lst => obtain ⟨a, _, rfl, _⟩ := r; cases h; rfl
  case dic => obtain ⟨a, _, _, rfl, _⟩ := r; cases h; rfl
  case scr => obtain ⟨a, rfl, _⟩ := r; cases h; rfl
  all_goals (subst r; cases h; rfl)
theorem notNon_is {d e : D} (h : notNonD d = some e) : ∃ b, isNonD d = some (.bl b) ∧ e = .bl (!b) := by
  cases d <;> unfold notNonD at h <;> unfold isNonD <;> (try cases h) <;> exact ⟨_, rfl, rfl⟩
theorem redIsN {g : EM D} : ∀ σ H Q, tD X.K W (eUn isNonD g) σ H Q → tIsN (tD X.K W g) σ H Q := by
  intro σ H Q hq
  obtain ⟨C, l, rw, G, S, hp⟩ := hq
  refine seqD (P := PEq X.K W C l σ H G Q) S hp (fun _ _ z => z) (fun z => z) fun d rw1 v H1 G1 S1 s1 r1 h1 => ?_
  dsimp only [PEq] at h1
  cases e : isNonD d with
  | none => rw [e] at h1; exact h1.elim
  | some b =>
    rw [e] at h1
    have z := r1.isNon e
    subst z
    exact h1 _ H1 G1 S1 s1 (by unfold Rep; rfl)
theorem redNotN {g : EM D} : ∀ σ H Q, tD X.K W (eUn notNonD g) σ H Q → tNotN (tD X.K W g) σ H Q := by
  intro σ H Q hq
  obtain ⟨C, l, rw, G, S, hp⟩ := hq
  refine seqD (P := PEq X.K W C l σ H G Q) S hp (fun _ _ z => z) (fun z => z) fun d rw1 v H1 G1 S1 s1 r1 h1 => ?_
  dsimp only [PEq] at h1
  cases e : notNonD d with
  | none => rw [e] at h1; exact h1.elim
  | some b =>
    rw [e] at h1
    obtain ⟨k, e1, e2⟩ := notNon_is e
    have z := r1.isNon e1
    injection z with z
    rw [e2, z] at h1
    exact h1 _ H1 G1 S1 s1 (by unfold Rep; rfl)
theorem de_isN {a : Expr} {j : Nat} {pos pos' : Pos} {g : EM D} (h : DE X W a g) : DE X W (.Compare a [.Is] [.Constant .none j pos'] pos) (eUn isNonD g) := pe_imp (pe_cmp (pc_isN h)) redIsN
theorem de_notN {a : Expr} {j : Nat} {pos pos' : Pos} {g : EM D} (h : DE X W a g) : DE X W (.Compare a [.IsNot] [.Constant .none j pos'] pos) (eUn notNonD g) := pe_imp (pe_cmp (pc_notN h)) redNotN
theorem dt_isN {a : Expr} {j : Nat} {pos pos' : Pos} {g : EM D} (h : DE X W a g) : DT X W (.Compare a [.Is] [.Constant .none j pos'] pos) (toB (eUn isNonD g)) := dt_pc (pc_isN h) redIsN
theorem dt_notN {a : Expr} {j : Nat} {pos pos' : Pos} {g : EM D} (h : DE X W a g) : DT X W (.Compare a [.IsNot] [.Constant .none j pos'] pos) (toB (eUn notNonD g)) := dt_pc (pc_notN h) redNotN
end
end HD
end
section
/-! Rules of the data layer: statements, defs, calls. -/
namespace HD
open PySem PySem.Spec L2
open PyProof.Rows hiding St

def sNext : SM := fun l rw => .ok (.next, l, rw)
def sBrk : SM := fun l rw => .ok (.brk, l, rw)
def sCont : SM := fun l rw => .ok (.cont, l, rw)
def sSeq (f g : SM) : SM := fun l rw => (f l rw).bind fun p => match p.1 with
  | .next => g p.2.1 p.2.2
  | x => .ok (x, p.2)
def sSet (i : Nat) (g : EM D) : SM := fun l rw => (g l rw).bind fun p => .ok (.next, l.set i (.val p.1), p.2)
def sSetO (i : Nat) (g : EM D) : SM := fun l rw => (g l rw).bind fun p => .ok (.next, l.set i (.own p.1), p.2)
def sExpr (g : EM D) : SM := fun l rw => (g l rw).bind fun p => .ok (.next, l, p.2)
def sRet (g : EM D) : SM := fun l rw => (g l rw).bind fun p => .ok (.ret p.1, l, p.2)
def sRetN : SM := fun l rw => .ok (.ret .non, l, rw)
/-- return of a name that holds an own thing -/
def sRetV (i : Nat) : SM := fun l rw => match l[i]? with
  | some (.own d) => .ok (.ret d, l, rw)
  | _ => .stuck
def sIf (c : EM Bool) (a b : SM) : SM := fun l rw => (c l rw).bind fun p => if p.1 = true then a l p.2 else b l p.2
/-- an own thing is shown from now on -/
def sFrz (i : Nat) : SM := fun l rw => match l[i]? with
  | some (.own d) => .ok (.next, l.set i (.val d), rw)
  | _ => .stuck
def sLoop (tg : D → Dl → Option Dl) (body : SM) : List D → SM
  | [], l, rw => .ok (.next, l, rw)
  | d :: ds, l, rw => match tg d l with
    | none => .stuck
    | some l1 => (body l1 rw).bind fun p => match p.1 with
      | .next => sLoop tg body ds p.2.1 p.2.2
      | .cont => sLoop tg body ds p.2.1 p.2.2
      | .brk => .ok (.next, p.2)
      | .ret d => .ok (.ret d, p.2)
def sFor (g : EM (List D)) (tg : D → Dl → Option Dl) (body : SM) : SM := fun l rw => (g l rw).bind fun p => sLoop tg body p.1 l p.2
def sWhile (c : EM Bool) (body : SM) : Nat → SM
  | 0, _, _ => .stuck
  | n + 1, l, rw => (c l rw).bind fun p => if p.1 = true then (body l p.2).bind fun q => match q.1 with
      | .next => sWhile c body n q.2.1 q.2.2
      | .cont => sWhile c body n q.2.1 q.2.2
      | .brk => .ok (.next, q.2)
      | .ret d => .ok (.ret d, q.2)
    else .ok (.next, l, p.2)

section
variable {K : PySem.W.Frag} {W : WD} {C : C0} {l : Dl} {rw : Rw} {σ : St} {H G H' G' : Hp} {d : D} {o : HO} {p : Addr} {v : V} {i : Nat}
theorem SR.setV (S : SR K C l rw σ H G) (r : Rep K C.r G d v) : SR K C (l.set i (.val d)) rw (σ.set i (some v)) H G := by
  refine ⟨S.sub, S.fr, S.g0, S.gn, by simp [S.len], fun j x e => ?_, fun j k d' e' q hjk hj hk h1 h2 => ?_, S.row⟩
  · by_cases h : i = j
    · subst h
      have hi : i < l.length := by
        have := (List.getElem?_eq_some_iff.mp e).1
        simpa using this
      rw [List.getElem?_set_self hi] at e
      cases e
      exact ⟨some v, by rw [List.getElem?_set_self (by rw [S.len]; exact hi)], v, rfl, r⟩
    · rw [List.getElem?_set_ne h] at e
      obtain ⟨u, e1, e2⟩ := S.sl j x e
      exact ⟨u, by rw [List.getElem?_set_ne h]; exact e1, e2⟩
  · have n1 : i ≠ j := fun z => by
      subst z
      have hi : i < l.length := by have := (List.getElem?_eq_some_iff.mp hj).1; simpa using this
      rw [List.getElem?_set_self hi] at hj; cases hj
    have n2 : i ≠ k := fun z => by
      subst z
      have hi : i < l.length := by have := (List.getElem?_eq_some_iff.mp hk).1; simpa using this
      rw [List.getElem?_set_self hi] at hk; cases hk
    rw [List.getElem?_set_ne n1] at hj h1
    rw [List.getElem?_set_ne n2] at hk h2
    exact S.ow j k d' e' q hjk hj hk h1 h2
theorem SR.setO (S : SR K C l rw σ H G) (r : Own K C H G d v) (ne : ∀ (j : Nat) e, j ≠ i → l[j]? = some (.own e) → σ[j]? ≠ some (some v)) : SR K C (l.set i (.own d)) rw (σ.set i (some v)) H G := by
  have hv : ∃ p, v = .ref p := let ⟨p, h, _⟩ := r; ⟨p, h⟩
  refine ⟨S.sub, S.fr, S.g0, S.gn, by simp [S.len], fun j x e => ?_, fun j k d' e' q hjk hj hk h1 h2 => ?_, S.row⟩
  · by_cases h : i = j
    · subst h
      have hi : i < l.length := by
        have := (List.getElem?_eq_some_iff.mp e).1
        simpa using this
      rw [List.getElem?_set_self hi] at e
      cases e
      exact ⟨some v, by rw [List.getElem?_set_self (by rw [S.len]; exact hi)], v, rfl, r⟩
    · rw [List.getElem?_set_ne h] at e
      obtain ⟨u, e1, e2⟩ := S.sl j x e
      exact ⟨u, by rw [List.getElem?_set_ne h]; exact e1, e2⟩
  · by_cases n1 : i = j
    · subst n1
      have hi : i < σ.length := by have := (List.getElem?_eq_some_iff.mp h1).1; simpa using this
      rw [List.getElem?_set_self hi] at h1
      cases h1
      rw [List.getElem?_set_ne hjk] at hk h2
      exact ne k e' (Ne.symm hjk) hk h2
    · rw [List.getElem?_set_ne n1] at hj h1
      by_cases n2 : i = k
      · subst n2
        have hi : i < σ.length := by have := (List.getElem?_eq_some_iff.mp h2).1; simpa using this
        rw [List.getElem?_set_self hi] at h2
        cases h2
        exact ne j d' hjk hj h1
      · rw [List.getElem?_set_ne n2] at hk h2
        exact S.ow j k d' e' q hjk hj hk h1 h2
theorem SR.ownAt (S : SR K C l rw σ H G) (e : l[i]? = some (.own d)) : ∃ p, σ[i]? = some (some (.ref p)) ∧ Own K C H G d (.ref p) := by
  obtain ⟨v, e1, u, e2, q⟩ := S.sl i _ e
  subst e2
  obtain ⟨p, e3, _⟩ := id q
  subst e3
  exact ⟨p, e1, q⟩
/-- an own thing that stands in the heap ahead is no new one -/
theorem SR.ownNe (S : SR K C l rw σ H G) (hp : H p = none) : ∀ (j : Nat) e, l[j]? = some (.own e) → σ[j]? ≠ some (some (.ref p)) := fun j e hj hz => by
  obtain ⟨q, e1, ow⟩ := S.ownAt hj
  rw [hz] at e1; cases e1
  obtain ⟨o, ho, _⟩ := ow.obj
  rw [hp] at ho; cases ho
theorem SR.up (S : SR K C l rw σ H G) : SR K ⟨C.r, C.H0, G⟩ l rw σ H G := ⟨S.sub, S.fr, Same.refl _, fun a o e => .inl e, S.len, S.sl, S.ow, S.row⟩
theorem SR.down {G1 : Hp} (g0 : Same C.G0 G1) (gn : ∀ a o, G1 a = some o → C.G0 a = some o ∨ C.H0 a = none) (S : SR K ⟨C.r, C.H0, G1⟩ l rw σ H G) : SR K C l rw σ H G :=
  ⟨S.sub, S.fr, g0.trans S.g0, fun a o e => (S.gn a o e).elim (fun z => gn a o z) .inr, S.len, S.sl, S.ow, S.row⟩
/-- an own thing is changed -/
theorem SR.mut {o' : HO} (S : SR K C l rw σ H G) (ho : H p = some o) (hg : G p = none) (h0 : C.H0 p = none) (hr : C.r ≠ some p) (nx : ∀ (j : Nat) e, l[j]? = some (.own e) → σ[j]? ≠ some (some (.ref p))) : SR K C l rw σ (upd H p o') G := by
  refine ⟨fun a u e => ?_, fun a u e ne => ?_, S.g0, S.gn, S.len, fun j x e => ?_, S.ow, ?_⟩
  · rw [upd_ne (ne_of_none e hg)]; exact S.sub a u e
  · rw [upd_ne (ne_of_none e h0)]; exact S.fr a u e ne
  · obtain ⟨v, e1, e2⟩ := S.sl j x e
    refine ⟨v, e1, ?_⟩
    cases x with
    | no => trivial
    | val d => exact e2
    | own d =>
      obtain ⟨u, e3, q, a1, a2, a3, a4, a5⟩ := e2
      subst e3 a1
      have ne : q ≠ p := fun z => nx j d e (by rw [e1, z])
      refine ⟨_, rfl, q, rfl, a2, a3, a4, ?_⟩
      cases d with
      | lst ds => obtain ⟨vs, b1, b2, b3⟩ := a5; exact ⟨vs, by rw [upd_ne ne]; exact b1, b2, b3⟩
      | dic ks ds => obtain ⟨kvs, vs, b1, b2, b3, b4, b5⟩ := a5; exact ⟨kvs, vs, by rw [upd_ne ne]; exact b1, b2, b3, b4, b5⟩
      | _ => exact a5.elim
  · have w := S.row
    unfold RowOk at w ⊢
    cases e : C.r with
    | none => rw [e] at w; cases rw <;> exact w
    | some a =>
      rw [e] at w
      cases rw with
      | none => exact w
      | some x =>
        obtain ⟨w1, v, w2, w3⟩ := w
        have ne : a ≠ p := fun z => hr (by rw [e, z])
        exact ⟨w1, v, by rw [upd_ne ne]; exact w2, w3⟩
/-- a slot forgotten -/
theorem SR.forget (S : SR K C l rw σ H G) : SR K C (l.set i .no) rw σ H G := by
  refine ⟨S.sub, S.fr, S.g0, S.gn, by simp [S.len], fun j x e => ?_, fun j k d' e' q hjk hj hk h1 h2 => ?_, S.row⟩
  · by_cases h : i = j
    · subst h
      have hi : i < l.length := by have := (List.getElem?_eq_some_iff.mp e).1; simpa using this
      rw [List.getElem?_set_self hi] at e
      cases e
      exact ⟨σ[i]'(by rw [S.len]; exact hi), List.getElem?_eq_getElem _, trivial⟩
    · rw [List.getElem?_set_ne h] at e
      exact S.sl j x e
  · have n1 : i ≠ j := fun z => by
      subst z
      have hi : i < l.length := by have := (List.getElem?_eq_some_iff.mp hj).1; simpa using this
      rw [List.getElem?_set_self hi] at hj; cases hj
    have n2 : i ≠ k := fun z => by
      subst z
      have hi : i < l.length := by have := (List.getElem?_eq_some_iff.mp hk).1; simpa using this
      rw [List.getElem?_set_self hi] at hk; cases hk
    rw [List.getElem?_set_ne n1] at hj
    rw [List.getElem?_set_ne n2] at hk
    exact S.ow j k d' e' q hjk hj hk h1 h2
/-- an own slot mutated in place -/
theorem SR.mutAt {d' : D} {o' : HO} (S : SR K C l rw σ H G) (e : l[i]? = some (.own d)) (hp : σ[i]? = some (some (.ref p))) (hd : isLD d' = true) (hob : ObjD K C.r G d' o') : SR K C (l.set i (.own d')) rw σ (upd H p o') G := by
  obtain ⟨q, e1, ow⟩ := S.ownAt e
  rw [hp] at e1; cases e1
  obtain ⟨o, ho, _, hg, h0, hr, _, _⟩ := ow.obj
  have S1 : SR K C (l.set i .no) rw σ H G := S.forget
  have nx : ∀ (j : Nat) e, (l.set i .no)[j]? = some (.own e) → σ[j]? ≠ some (some (.ref p)) := fun j e' hj hz => by
    by_cases h : i = j
    · subst h
      have hi : i < l.length := by have := (List.getElem?_eq_some_iff.mp hj).1; simpa using this
      rw [List.getElem?_set_self hi] at hj; cases hj
    · rw [List.getElem?_set_ne h] at hj
      exact S.ow i j d e' p h e hj hp hz
  have S2 : SR K C (l.set i .no) rw σ (upd H p o') G := S1.mut ho hg h0 hr nx
  have ow' : Own K C (upd H p o') G d' (.ref p) := by
    refine ⟨p, rfl, hg, h0, hr, ?_⟩
    cases d' with
    | lst ds => obtain ⟨vs, rfl, h1, h2⟩ := hob; exact ⟨vs, upd_same, h1, h2⟩
    | dic ks ds => obtain ⟨kvs, vs, rfl, h1, h2, h3, h4⟩ := hob; exact ⟨kvs, vs, upd_same, h1, h2, h3, h4⟩
    | _ => cases hd
  have S3 := S2.setO (i := i) ow' fun j e' hji hj => nx j e' hj
  rw [List.set_set] at S3
  have hi : i < σ.length := (List.getElem?_eq_some_iff.mp hp).1
  have es : σ.set i (some (.ref p)) = σ := by
    refine List.ext_getElem? fun j => ?_
    by_cases h : i = j
    · subst h; rw [List.getElem?_set_self hi, hp]
    · rw [List.getElem?_set_ne h]
  rw [es] at S3
  exact S3
end

section
variable {X : Cx} {W : WD} {own : Bool}
/-! ### blocks -/
theorem dss_nil : DSs X W own [] sNext := pss_imp pss_nil fun E σ H ⟨C, l, rw, G, S, hp⟩ => hp σ H G S
theorem dss_cons {st : Stmt} {r : List Stmt} {f g : SM} (h1 : DS X W own st f) (h2 : DSs X W own r g) : DSs X W own (st :: r) (sSeq f g) := by
  refine pss_imp (pss_cons h1 h2) fun E σ H hq => ?_
  obtain ⟨C, l, rw, G, S, hp⟩ := hq
  refine ⟨C, l, rw, G, S, ?_⟩
  unfold sSeq at hp
  cases e : f l rw with
  | exc x w => rw [e] at hp; exact hp
  | stuck => rw [e] at hp; exact hp
  | ok p =>
    obtain ⟨fl, l', rw'⟩ := p
    rw [e] at hp
    cases fl with
    | next => exact fun σ' H' G' S' => ⟨C, l', rw', G', S', hp⟩
    | ret d => exact hp
    | brk => exact hp
    | cont => exact hp
theorem dss_one {st : Stmt} {f : SM} (h1 : DS X W own st f) : DSs X W own [st] f := pss_one h1
/-- a word to the reader: the thing at i isn't changed from here on -/
theorem dss_frz {i : Nat} {sts : List Stmt} {g : SM} (h : DSs X W own sts g) : DSs X W own sts (sSeq (sFrz i) g) := by
  refine pss_imp h fun E σ H hq => ?_
  obtain ⟨C, l, rw, G, S, hp⟩ := hq
  unfold sSeq sFrz at hp
  cases e : l[i]? with
  | none => rw [e] at hp; exact hp.elim
  | some x =>
    rw [e] at hp
    cases x with
    | no => exact hp.elim
    | val d => exact hp.elim
    | own d =>
      obtain ⟨p, e1, ow⟩ := S.ownAt e
      obtain ⟨o, ho, hob, hg, h0, hr, _, _⟩ := ow.obj
      have S1 : SR X.K C (l.set i .no) rw σ H G := S.forget
      have nx : ∀ (j : Nat) e, (l.set i .no)[j]? = some (.own e) → σ[j]? ≠ some (some (.ref p)) := fun j e' hj hz => by
        by_cases h : i = j
        · subst h
          have hi : i < l.length := by have := (List.getElem?_eq_some_iff.mp hj).1; simpa using this
          rw [List.getElem?_set_self hi] at hj; cases hj
        · rw [List.getElem?_set_ne h] at hj
          exact S.ow i j d e' p h e hj e1 hz
      have S2 := (S1.freeze ho hg h0 hr nx).setV (i := i) (hob.rep hg)
      rw [List.set_set] at S2
      have hi : i < σ.length := (List.getElem?_eq_some_iff.mp e1).1
      have es : σ.set i (some (.ref p)) = σ := by
        refine List.ext_getElem? fun j => ?_
        by_cases h : i = j
        · subst h; rw [List.getElem?_set_self hi, e1]
        · rw [List.getElem?_set_ne h]
      rw [es] at S2
      exact ⟨C, _, rw, _, S2, hp⟩
/-! ### small statements -/
theorem ds_pass {pos : Pos} : DS X W own (.Pass pos) sNext := ps_imp ps_pass fun E σ H ⟨C, l, rw, G, S, hp⟩ => hp σ H G S
theorem ds_break {pos : Pos} : DS X W own (.Break pos) sBrk := ps_imp ps_break fun E σ H ⟨C, l, rw, G, S, hp⟩ => hp σ H G S
theorem ds_cont {pos : Pos} : DS X W own (.Continue pos) sCont := ps_imp ps_continue fun E σ H ⟨C, l, rw, G, S, hp⟩ => hp σ H G S
theorem ds_expr {e : Expr} {g : EM D} {pos : Pos} (h : DE X W e g) (hs : swapsWith e none pos.line X.env = pure false := by rfl) : DS X W own (.Expr e pos) (sExpr g) := by
  refine ps_imp (ps_expr h hs) fun E σ H hq => ?_
  obtain ⟨C, l, rw, G, S, hp⟩ := hq
  exact seqD (P := PSq X.K W own C E) S hp (fun x w z H' G' S' => z l σ H' G' S') (fun z => z) fun d rw1 v H1 G1 S1 s1 r1 h1 => h1 σ H1 G1 S1
theorem ds_set {i : Nat} {x : Str} {e : Expr} {g : EM D} {pos pos' : Pos} (hN : X.N.Nodup) (hi : X.N[i]? = some x) (hx : Loc X.env.scope x) (he : DE X W e g) (hs : swapsWith e (some (.Name x pos')) pos.line X.env = pure false := by rfl)
    (hf : X.fn x = true ∨ X.env.scope.names.lookup x = some .local := by first | exact .inl rfl | exact .inr rfl | assumption) : DS X W own (.Assign [.Name x pos'] e pos) (sSet i g) := by
  refine ps_imp (ps_set hN hi hx he hs hf) fun E σ H hq => ?_
  obtain ⟨C, l, rw, G, S, hp⟩ := hq
  exact seqD (P := PSq X.K W own C E) S hp (fun x w z H' G' S' => z l σ H' G' S') (fun z => z) fun d rw1 v H1 G1 S1 s1 r1 h1 => h1 _ H1 G1 (S1.setV r1)
theorem ds_setO {i : Nat} {x : Str} {e : Expr} {g : EM D} {pos pos' : Pos} (hN : X.N.Nodup) (hi : X.N[i]? = some x) (hx : Loc X.env.scope x) (he : DO X W e g) (hs : swapsWith e (some (.Name x pos')) pos.line X.env = pure false := by rfl)
    (hf : X.fn x = true ∨ X.env.scope.names.lookup x = some .local := by first | exact .inl rfl | exact .inr rfl | assumption) : DS X W own (.Assign [.Name x pos'] e pos) (sSetO i g) := by
  refine ps_imp (ps_set hN hi hx he hs hf) fun E σ H hq => ?_
  obtain ⟨C, l, rw, G, S, hp⟩ := hq
  refine seqO (P := PSq X.K W own C E) S hp (fun x w z H' G' S' => z l σ H' G' S') (fun z => z) fun d rw1 p H1 G1 S1 s1 f r1 h1 => h1 _ H1 G1 (S1.setO r1 fun j e _ hj hz => S.ownNe f j e hj hz)
theorem ds_ret {e : Expr} {g : EM D} {pos : Pos} (h : DE X W e g) : DS X W false (.Return (some e) pos) (sRet g) := by
  refine ps_imp (ps_ret h) fun E σ H hq => ?_
  obtain ⟨C, l, rw, G, S, hp⟩ := hq
  exact seqD (P := PSq X.K W false C E) S hp (fun x w z H' G' S' => z l σ H' G' S') (fun z => z) fun d rw1 v H1 G1 S1 s1 r1 h1 => h1 v σ H1 G1 S1 r1
theorem ds_retO {e : Expr} {g : EM D} {pos : Pos} (h : DO X W e g) : DS X W true (.Return (some e) pos) (sRet g) := by
  refine ps_imp (ps_ret h) fun E σ H hq => ?_
  obtain ⟨C, l, rw, G, S, hp⟩ := hq
  exact seqO (P := PSq X.K W true C E) S hp (fun x w z H' G' S' => z l σ H' G' S') (fun z => z) fun d rw1 p H1 G1 S1 s1 f r1 h1 => h1 (.ref p) σ H1 G1 S1 r1
theorem ds_retN {pos : Pos} : DS X W false (.Return none pos) sRetN := by
  refine ps_imp ps_retN fun E σ H hq => ?_
  obtain ⟨C, l, rw, G, S, hp⟩ := hq
  exact hp .non σ H G S (by unfold RetRep; rw [if_neg Bool.false_ne_true]; unfold Rep; rfl)
theorem ds_retV {i : Nat} {x : Str} {pos pos' : Pos} (h : PE X (.Name x pos') (tVar i)) : DS X W true (.Return (some (.Name x pos')) pos) (sRetV i) := by
  refine ps_imp (ps_ret h) fun E σ H hq => ?_
  obtain ⟨C, l, rw, G, S, hp⟩ := hq
  unfold sRetV at hp
  cases e : l[i]? with
  | none => rw [e] at hp; exact hp.elim
  | some x =>
    rw [e] at hp
    cases x with
    | no => exact hp.elim
    | val d => exact hp.elim
    | own d =>
      obtain ⟨p, e1, ow⟩ := S.ownAt e
      exact ⟨.ref p, e1, hp (.ref p) σ H G S (by unfold RetRep; rw [if_pos rfl]; exact ow)⟩
theorem ds_if {c : Expr} {a b : List Stmt} {gc : EM Bool} {f g : SM} {pos : Pos} (hc : DT X W c gc) (ha : DSs X W own a f) (hb : DSs X W own b g) : DS X W own (.If c a b pos) (sIf gc f g) := by
  refine ps_imp (ps_if hc ha hb) fun E σ H hq => ?_
  obtain ⟨C, l, rw, G, S, hp⟩ := hq
  refine seqT (P := PSq X.K W own C E) S hp (fun x w z H' G' S' => z l σ H' G' S') (fun z => z) fun b rw1 H1 G1 S1 s1 h1 => ?_
  cases b with
  | true => exact iteT ⟨C, l, rw1, G1, S1, h1⟩
  | false => exact iteF ⟨C, l, rw1, G1, S1, h1⟩

/-! ### targets -/
def tG (K : PySem.W.Frag) (js : List Nat) (tg : D → Dl → Option Dl) : TG := fun v σ H Q => ∃ C l rw G d l', SR K C l rw σ H G ∧ Rep K C.r G d v ∧ tg d l = some l' ∧ ∀ σ', SR K C l' rw σ' H G → (∀ vs : List Nat, (∀ j ∈ js, j ∈ vs) → wipe σ' vs = wipe σ vs) → Q σ' H
def tGs (K : PySem.W.Frag) (js : List Nat) (tg : List D → Dl → Option Dl) : TGs := fun vs σ H Q => ∃ C l rw G ds l', SR K C l rw σ H G ∧ Reps K C.r G ds vs ∧ tg ds l = some l' ∧ ∀ σ', SR K C l' rw σ' H G → (∀ vs : List Nat, (∀ j ∈ js, j ∈ vs) → wipe σ' vs = wipe σ vs) → Q σ' H
abbrev DG (X : Cx) (e : Expr) (js : List Nat) (tg : D → Dl → Option Dl) : Prop := PG X e (tG X.K js tg)
abbrev DGs (X : Cx) (es : List Expr) (js : List Nat) (tg : List D → Dl → Option Dl) : Prop := PGs X es (tGs X.K js tg)
theorem pg_imp {e : Expr} {t t' : TG} (h : PG X e t) (i : ∀ v σ H Q, t' v σ H Q → t v σ H Q) : PG X e t' := ⟨fun pins s σ H v u Q I r q => h.run pins s σ H v u Q I r (i v σ H Q q)⟩
theorem pgs_imp {e : List Expr} {t t' : TGs} (h : PGs X e t) (i : ∀ v σ H Q, t' v σ H Q → t v σ H Q) : PGs X e t' := ⟨fun pins s σ H v u Q I r q => h.run pins s σ H v u Q I r (i v σ H Q q)⟩
theorem wipe_set {σ : St} {i : Nat} {x : Option V} : ∀ {vs : List Nat}, i ∈ vs → wipe (σ.set i x) vs = wipe σ vs
  | [], h => by simp at h
  | v :: vs, h => by
    unfold wipe
    by_cases e : i = v
    · subst e
      by_cases h2 : i ∈ vs
      · rw [wipe_set h2]
      · have : ∀ (vs : List Nat) (σ : St), i ∉ vs → wipe (σ.set i x) vs = (wipe σ vs).set i x := by
          intro vs
          induction vs with
          | nil => intro σ _; rfl
          | cons u us ih =>
            intro σ hn
            unfold wipe
            rw [ih σ fun z => hn (List.mem_cons_of_mem _ z), List.set_comm]
            exact fun z => hn (z ▸ List.mem_cons_self)
        rw [this vs σ h2, List.set_set]
    · rw [wipe_set ((List.mem_cons.mp h).resolve_left e)]
def gN (i : Nat) : D → Dl → Option Dl := fun d l => some (l.set i (.val d))
theorem dg_name {i : Nat} {x : Str} {pos : Pos} (hN : X.N.Nodup) (hi : X.N[i]? = some x) (hx : Loc X.env.scope x) (hf : X.fn x = true ∨ X.env.scope.names.lookup x = some .local := by first | exact .inl rfl | exact .inr rfl | assumption) : DG X (.Name x pos) [i] (gN i) := by
  refine pg_imp (pg_name hN hi hx hf) fun v σ H Q hq => ?_
  obtain ⟨C, l, rw, G, d, l', S, r, e, k⟩ := hq
  cases e
  exact k _ (S.setV r) fun vs h => wipe_set (h i (by simp))
def gsNil : List D → Dl → Option Dl := fun ds l => match ds with
  | [] => some l
  | _ => none
def gsCons (t : D → Dl → Option Dl) (u : List D → Dl → Option Dl) : List D → Dl → Option Dl := fun ds l => match ds with
  | d :: r => (t d l).bind fun l1 => u r l1
  | [] => none
theorem dgs_nil : DGs X [] [] gsNil := by
  refine pgs_imp pgs_nil fun v σ H Q hq => ?_
  obtain ⟨C, l, rw, G, ds, l', S, r, e, k⟩ := hq
  unfold gsNil at e
  cases ds with
  | nil => cases e; unfold Reps at r; exact ⟨r, k σ S fun _ _ => rfl⟩
  | cons _ _ => cases e
theorem dgs_cons {e : Expr} {es : List Expr} {js ks : List Nat} {t : D → Dl → Option Dl} {u : List D → Dl → Option Dl} (h1 : DG X e js t) (h2 : DGs X es ks u)
    (hs : (assignEach (e :: es) X.env).map (·.2) = assign e X.env :: (assignEach es X.env).map (·.2) := by rfl) : DGs X (e :: es) (js ++ ks) (gsCons t u) := by
  refine pgs_imp (pgs_cons h1 h2 hs) fun v σ H Q hq => ?_
  obtain ⟨C, l, rw, G, ds, l', S, r, e, k⟩ := hq
  unfold gsCons at e
  cases ds with
  | nil => cases e
  | cons d ds =>
    unfold Reps at r
    obtain ⟨v1, vr, e1, r1, r2⟩ := r
    cases q : t d l with
    | none => simp [q] at e
    | some l1 =>
      simp only [q, Option.bind_some] at e
      refine ⟨v1, vr, e1, C, l, rw, G, d, l1, S, r1, q, fun σ1 S1 w1 => ?_⟩
      refine ⟨C, l1, rw, G, ds, l', S1, r2, e, fun σ2 S2 w2 => k σ2 S2 fun vs h => ?_⟩
      rw [w2 vs fun j hj => h j (List.mem_append_right _ hj), w1 vs fun j hj => h j (List.mem_append_left _ hj)]
def gT (n : Nat) (u : List D → Dl → Option Dl) : D → Dl → Option Dl := fun d l => match d with
  | .tup ds => if ds.length = n then u ds l else none
  | _ => none
theorem dg_tup {es : List Expr} {k n : Nat} {js : List Nat} {u : List D → Dl → Option Dl} {pos : Pos} (hc : X.calm = true) (h : DGs X es js u) (hn : (assignEach es X.env).length = n := by rfl) (hst : (assignEach es X.env).findIdx? (·.1) = none := by rfl) : DG X (.Tuple es k pos) js (gT n u) := by
  refine pg_imp (pg_tup hc h hn hst) fun v σ H Q hq => ?_
  obtain ⟨C, l, rw, G, d, l', S, r, e, q⟩ := hq
  cases d with
  | tup ds =>
    unfold gT at e
    dsimp only at e
    by_cases z : ds.length = n
    · rw [if_pos z] at e
      unfold Rep at r
      obtain ⟨a, vs, rfl, h1, h2, h3⟩ := r
      exact ⟨a, vs, rfl, Same.seqT S.sub h1, by rw [← h3.length]; exact z, C, l, rw, G, ds, l', S, h3, e, q⟩
    · rw [if_neg z] at e; cases e
  | _ => cases e
/-- target = value -/
def sAsg (g : EM D) (tg : D → Dl → Option Dl) : SM := fun l rw => (g l rw).bind fun p => match tg p.1 l with
  | some l' => .ok (.next, l', p.2)
  | none => .stuck
theorem ds_asg {tgt e : Expr} {g : EM D} {js : List Nat} {tg : D → Dl → Option Dl} {pos : Pos} (he : DE X W e g) (hg : DG X tgt js tg) (hs : swapsWithSole [tgt] e pos.line X.env = pure false := by rfl) (hw : swappedStores [tgt] e X.env = pure none := by rfl)
    (h1 : (assignEach [tgt] X.env).map (·.2) = [assign tgt X.env] := by rfl) : DS X W own (.Assign [tgt] e pos) (sAsg g tg) := by
  refine ps_imp (ps_asg he hg hs hw h1) fun E σ H hq => ?_
  obtain ⟨C, l, rw, G, S, hp⟩ := hq
  refine seqD (P := PSq X.K W own C E) S hp (fun x w z H' G' S' => z l σ H' G' S') (fun z => z) fun d rw1 v H1 G1 S1 s1 r1 h1 => ?_
  dsimp only [PSq] at h1
  cases q : tg d l with
  | none => rw [q] at h1; exact h1.elim
  | some l' =>
    rw [q] at h1
    exact ⟨C, l, rw1, G1, d, l', S1, r1, q, fun σ' S' _ => h1 σ' H1 G1 S'⟩

/-! ### loops -/
structure WalkD (K : PySem.W.Frag) (r : Option Addr) (G : Hp) (J : It) (ds : List D) : Prop where
  go : ∀ i H, Same G H → i < ds.length → J.go i H
  stop : ∀ i H, Same G H → ds.length ≤ i → J.stop i H
  yld : ∀ i H x H', Same G H → J.yld i H x H' → ∀ d, ds[i]? = some d → H' = H ∧ Rep K r G d x
def IPost (K : PySem.W.Frag) (W : WD) (C : C0) (l : Dl) (σ : St) (H G : Hp) (q : R (List D × Rw)) (Rr : It → Hp → Prop) : Prop :=
  match q with
  | .ok (ds, rw') => ∀ J H' G', SR K C l rw' σ H' G' → Gr C.r H G H' G' → WalkD K C.r G' J ds → Rr J H'
  | .exc x rw' => ∀ H' G', SR K C l rw' σ H' G' → W x σ H'
  | .stuck => False
def tI (K : PySem.W.Frag) (W : WD) (g : EM (List D)) : TI := fun σ H Rr => ∃ C l rw G, SR K C l rw σ H G ∧ IPost K W C l σ H G (g l rw) Rr
abbrev DI (X : Cx) (W : WD) (tg e : Expr) (g : EM (List D)) : Prop := PI X tg e (tI X.K W g)
theorem pi_imp {tg e : Expr} {t t' : TI} (h : PI X tg e t) (i : ∀ σ H R, t' σ H R → t σ H R) : PI X tg e t' := ⟨fun pins s σ H R I q => h.run pins s σ H R I (i σ H R q)⟩
theorem seqI {K : PySem.W.Frag} {C : C0} {l : Dl} {rw : Rw} {σ : St} {H G : Hp} {β : Type} {g : EM (List D)} {k : List D × Rw → R β} {P : R β → Prop} {Q' : It → Hp → Prop} (S : SR K C l rw σ H G) (hp : P ((g l rw).bind k)) (hx : ∀ x w, P (.exc x w) → ∀ H' G', SR K C l w σ H' G' → W x σ H') (hs : P .stuck → False)
    (f : ∀ ds rw' J H' G', SR K C l rw' σ H' G' → Gr C.r H G H' G' → WalkD K C.r G' J ds → P (k (ds, rw')) → Q' J H') : tI K W g σ H Q' := by
  refine ⟨C, l, rw, G, S, ?_⟩
  cases e1 : g l rw with
  | exc x w => rw [e1] at hp; exact hx x w hp
  | stuck => rw [e1] at hp; exact (hs hp).elim
  | ok p =>
    obtain ⟨d, rw'⟩ := p
    rw [e1] at hp
    exact fun vs H' G' S' s r => f d rw' vs H' G' S' s r hp
theorem SPost.up {K : PySem.W.Frag} {C : C0} {G1 : Hp} {q : R (Fl × Dl × Rw)} {E : Ends} (g0 : Same C.G0 G1) (gn : ∀ a o, G1 a = some o → C.G0 a = some o ∨ C.H0 a = none) (h : SPost K W own C q E) : SPost K W own ⟨C.r, C.H0, G1⟩ q E := by
  cases q with
  | exc x w => exact fun l' σ' H' G' S' => h l' σ' H' G' (S'.down g0 gn)
  | stuck => exact h
  | ok p =>
    obtain ⟨fl, l', rw'⟩ := p
    cases fl with
    | next => exact fun σ' H' G' S' => h σ' H' G' (S'.down g0 gn)
    | brk => exact fun σ' H' G' S' => h σ' H' G' (S'.down g0 gn)
    | cont => exact fun σ' H' G' S' => h σ' H' G' (S'.down g0 gn)
    | ret d => exact fun v σ' H' G' S' r => h v σ' H' G' (S'.down g0 gn) r
theorem ds_for {tgt iter : Expr} {body : List Stmt} {g : EM (List D)} {js : List Nat} {tg : D → Dl → Option Dl} {f : SM} {pos : Pos} (hp : PassesOwn (model X.prog X.w) X.A X.env X.xe) (hc : X.calm = true) (hi : DI X W tgt iter g) (hg : DG X tgt js tg) (hb : DSs X W own body f)
    (hs : ∀ x, foldedSetIterable iter X.env x = pure x := by intro _; rfl) : DS X W own (.For tgt iter body [] pos) (sFor g tg f) := by
  refine ps_imp (ps_for hp hc hi hg hb hs) fun E σ H hq => ?_
  obtain ⟨C, l, rw, G, S, hp⟩ := hq
  refine seqI (P := PSq X.K W own C E) S hp (fun x w z H' G' S' => z l σ H' G' S') (fun z => z) fun ds rw1 J H1 G1 S1 s1 wd h1 => ?_
  refine ⟨fun i m σ H => m = ds.length - i ∧ i ≤ ds.length ∧ ∃ l rw G, SR X.K ⟨C.r, C.H0, G1⟩ l rw σ H G ∧ SPost X.K W own ⟨C.r, C.H0, G1⟩ (sLoop tg f (ds.drop i) l rw) E, ⟨ds.length, rfl, Nat.zero_le _, l, rw1, G1, S1.up, by rw [List.drop_zero]; exact SPost.up S1.g0 S1.gn h1⟩, ?_⟩
  rintro i m σ2 H2 ⟨rfl, hi, l2, rw2, G2, S2, h2⟩
  by_cases hlt : i < ds.length
  · refine .inr ⟨wd.go i H2 (S2.g0.trans S2.sub) hlt, ?_⟩
    have hd : ds.drop i = ds[i] :: ds.drop (i + 1) := List.drop_eq_getElem_cons hlt
    rw [hd] at h2
    unfold sLoop at h2
    cases q : tg ds[i] l2 with
    | none => rw [q] at h2; exact h2.elim
    | some l3 =>
      rw [q] at h2
      dsimp only at h2
      refine ⟨fun σ' H' => ∃ l rw G, SR X.K ⟨C.r, C.H0, G1⟩ l rw σ' H' G ∧ SPost X.K W own ⟨C.r, C.H0, G1⟩ (sLoop tg f (ds.drop (i + 1)) l rw) E, fun σ' H' hN => ⟨_, by omega, rfl, hlt, hN⟩, fun x H' y => ?_⟩
      obtain ⟨e, r⟩ := wd.yld i H2 x H' (S2.g0.trans S2.sub) y _ (List.getElem?_eq_getElem hlt)
      subst e
      refine ⟨⟨C.r, C.H0, G1⟩, l2, rw2, G2, ds[i], l3, S2, r.mono S2.g0, q, fun σ' S' _ => ?_⟩
      refine ⟨⟨C.r, C.H0, G1⟩, l3, rw2, G2, S', ?_⟩
      cases e : f l3 rw2 with
      | exc x w => rw [e] at h2; exact h2
      | stuck => rw [e] at h2; exact h2
      | ok p =>
        obtain ⟨fl, l', rw'⟩ := p
        rw [e] at h2
        cases fl with
        | next => exact fun σ' H' G' S' => ⟨l', rw', G', S', h2⟩
        | cont => exact fun σ' H' G' S' => ⟨l', rw', G', S', h2⟩
        | brk => exact h2
        | ret d => exact h2
  · have e : i = ds.length := by omega
    subst e
    rw [List.drop_length] at h2
    exact .inl ⟨wd.stop _ H2 (S2.g0.trans S2.sub) (Nat.le_refl _), h2 σ2 H2 G2 S2⟩
theorem ds_while {c : Expr} {body : List Stmt} {gc : EM Bool} {f : SM} {pos : Pos} (n : Nat) (hp : PassesOwn (model X.prog X.w) X.A X.env X.xe) (hc : DT X W c gc) (hb : DSs X W own body f) : DS X W own (.While c body [] pos) (sWhile gc f n) := by
  refine ps_imp (ps_while hp hc hb) fun E σ H hq => ?_
  obtain ⟨C, l, rw, G, S, hp⟩ := hq
  refine ⟨fun m σ H => ∃ l rw G, SR X.K C l rw σ H G ∧ SPost X.K W own C (sWhile gc f m l rw) E, ⟨n, l, rw, G, S, hp⟩, ?_⟩
  rintro m σ2 H2 ⟨l2, rw2, G2, S2, h2⟩
  cases m with
  | zero => exact h2.elim
  | succ m =>
    unfold sWhile at h2
    refine seqT (P := PSq X.K W own C E) S2 h2 (fun x w z H' G' S' => z l2 σ2 H' G' S') (fun z => z) fun b rw3 H3 G3 S3 s3 h3 => ?_
    cases b with
    | false => exact iteF (h3 σ2 H3 G3 S3)
    | true =>
      refine iteT ⟨fun σ' H' => ∃ l rw G, SR X.K C l rw σ' H' G ∧ SPost X.K W own C (sWhile gc f m l rw) E, fun σ' H' hN => ⟨m, Nat.lt_succ_self _, hN⟩, C, l2, rw3, G3, S3, ?_⟩
      dsimp only [PSq] at h3
      rw [if_pos rfl] at h3
      cases e : f l2 rw3 with
      | exc x w => rw [e] at h3; exact h3
      | stuck => rw [e] at h3; exact h3
      | ok p =>
        obtain ⟨fl, l', rw'⟩ := p
        rw [e] at h3
        cases fl with
        | next => exact fun σ' H' G' S' => ⟨l', rw', G', S', h3⟩
        | cont => exact fun σ' H' G' S' => ⟨l', rw', G', S', h3⟩
        | brk => exact h3
        | ret d => exact h3
end
end HD
end
section
/-! Rules of the data layer: what is walked, comprehensions, own things changed, borrowed; calls; defs. -/
namespace HD
open PySem PySem.Spec L2
open PyProof.Rows hiding St

/-! ### what is walked -/
def itemsOf : D → Option (List D)
  | .lst ds => some ds
  | .tup ds => some ds
  | _ => none
def aItems (g : EM D) : EM (List D) := fun l rw => (g l rw).bind fun p => ofO (itemsOf p.1) p.2
def rangeD (lo : Int) (n : Nat) : List D := (List.range n).map fun (k : Nat) => .int (lo + (k : Int))
theorem small62 {j : Int} (h : -1000000 ≤ j ∧ j ≤ 1000000) : -(2 ^ 62) ≤ j ∧ j < 2 ^ 62 := ⟨Int.le_trans (by decide) h.1, Int.lt_of_le_of_lt h.2 (by decide)⟩
def rng1 : List D → Option (List D)
  | [.int j] => if -1000000 ≤ j ∧ j ≤ 1000000 then some (rangeD 0 j.toNat) else none
  | _ => none
def rng2 : List D → Option (List D)
  | [.int i, .int j] => if (-1000000 ≤ i ∧ i ≤ 1000000) ∧ (-1000000 ≤ j ∧ j ≤ 1000000) then some (rangeD i (j - i).toNat) else none
  | _ => none
def aRng (f : List D → Option (List D)) (g : EM (List D)) : EM (List D) := fun l rw => (g l rw).bind fun p => ofO (f p.1) p.2
section
variable {K : PySem.W.Frag} {r : Option Addr} {G : Hp}
theorem walk_l {a : Addr} {vs : List V} {ds : List D} (h : G a = some (.lst vs)) (q : Reps K r G ds vs) : WalkD K r G (Itl K a) ds where
  go := fun i H s hi => by
    have hl := q.length
    exact ⟨vs, vs[i]'(by omega), .of (s _ _ h), List.getElem?_eq_getElem _⟩
  stop := fun i H s hi => ⟨vs, .of (s _ _ h), by rw [← q.length]; exact hi⟩
  yld := fun i H x H' s y d hd => by
    obtain ⟨e, y⟩ := y
    obtain ⟨v, e1, e2⟩ := q.get hd
    have e3 := y vs (.of (s _ _ h))
    rw [e1] at e3; cases e3
    exact ⟨e, e2⟩
theorem walk_t {a : Addr} {vs : List V} {ds : List D} (h : SqT K G a vs) (q : Reps K r G ds vs) : WalkD K r G (Itt K a) ds where
  go := fun i H s hi => by
    have hl := q.length
    exact ⟨vs, vs[i]'(by omega), Same.seqT s h, List.getElem?_eq_getElem _⟩
  stop := fun i H s hi => ⟨vs, Same.seqT s h, by rw [← q.length]; exact hi⟩
  yld := fun i H x H' s y d hd => by
    obtain ⟨e, y⟩ := y
    obtain ⟨v, e1, e2⟩ := q.get hd
    have e3 := y vs (Same.seqT s h)
    rw [e1] at e3; cases e3
    exact ⟨e, e2⟩
theorem rangeD_length {lo : Int} {n : Nat} : (rangeD lo n).length = n := by simp [rangeD]
theorem walk_r {lo : Int} {n : Nat} : WalkD K r G (Itr lo n) (rangeD lo n) where
  go := fun i H s hi => by rw [rangeD_length] at hi; exact hi
  stop := fun i H s hi => by rw [rangeD_length] at hi; exact hi
  yld := fun i H x H' s y d hd => by
    obtain ⟨e, y⟩ := y
    refine ⟨e, ?_⟩
    unfold rangeD at hd
    rw [List.getElem?_map] at hd
    cases q : (List.range n)[i]? with
    | none => rw [q] at hd; cases hd
    | some k =>
      rw [q] at hd
      have hk : k = i := by
        have hi : i < (List.range n).length := (List.getElem?_eq_some_iff.mp q).1
        rw [List.getElem?_eq_getElem hi] at q
        simpa using q.symm
      cases hd
      subst y
      unfold Rep
      rw [hk]
end
section
variable {X : Cx} {W : WD} {own : Bool}
theorem pi_or {tg e : Expr} {t t' : TI} (h : PI X tg e t) (h' : PI X tg e t') : PI X tg e (fun σ H R => t σ H R ∨ t' σ H R) := ⟨fun pins s σ H R I q => q.elim (h.run pins s σ H R I) (h'.run pins s σ H R I)⟩
theorem di_seq {tg e : Expr} {g : EM D} (h : DE X W e g) : DI X W tg e (aItems g) := by
  refine pi_imp (pi_or (pi_list h) (pi_tup h)) fun σ H Rr hq => ?_
  obtain ⟨C, l, rw, G, S, hp⟩ := hq
  cases e : g l rw with
  | exc x w => unfold aItems at hp; rw [e] at hp; exact .inl ⟨C, l, rw, G, S, by rw [e]; exact hp⟩
  | stuck => unfold aItems at hp; rw [e] at hp; exact hp.elim
  | ok p =>
    obtain ⟨d, rw'⟩ := p
    unfold aItems at hp
    rw [e] at hp
    cases d with
    | lst ds =>
      refine .inl ⟨C, l, rw, G, S, ?_⟩
      rw [e]
      intro v H1 G1 S1 s1 r1
      unfold Rep at r1
      obtain ⟨a, vs, rfl, h1, h2, h3⟩ := r1
      exact ⟨a, rfl, ⟨vs, .of (S1.sub _ _ h1)⟩, hp (Itl X.K a) H1 G1 S1 s1 (walk_l h1 h3)⟩
    | tup ds =>
      refine .inr ⟨C, l, rw, G, S, ?_⟩
      rw [e]
      intro v H1 G1 S1 s1 r1
      unfold Rep at r1
      obtain ⟨a, vs, rfl, h1, h2, h3⟩ := r1
      exact ⟨a, rfl, ⟨vs, Same.seqT S1.sub h1⟩, hp (Itt X.K a) H1 G1 S1 s1 (walk_t h1 h3)⟩
    | _ => exact hp.elim
theorem di_rng1 {tg a : Expr} {g : EM (List D)} {p pos : Pos} (hg : Gl X "range") (hm : X.mg "range" = none) (ha : DA X W [a] g) (hs : starEach [a] X.env = [(false, eval a X.env)] := by rfl) : DI X W tg (.Call (.Name "range" p) [a] [] pos) (aRng rng1 g) := by
  refine pi_imp (pi_range1 hg hm ha hs) fun σ H Rr hq => ?_
  obtain ⟨C, l, rw, G, S, hp⟩ := hq
  refine seqA (P := fun q => IPost X.K W C l σ H G q Rr) S hp (fun x w z H' G' S' => z H' G' S') (fun z => z) fun ds rw1 vs H1 G1 S1 s1 r1 h1 => ?_
  dsimp only at h1
  cases e : rng1 ds with
  | none => rw [e] at h1; exact h1.elim
  | some xs =>
    rw [e] at h1
    unfold rng1 at e
    split at e
    case h_2 => cases e
    case h_1 j =>
      split at e
      case isFalse => cases e
      case isTrue hj =>
        cases e
        have rv : vs = [.int j] := Reps.ints (ns := [j]) r1
        exact ⟨j, rv, (small62 hj).1, (small62 hj).2, h1 _ H1 G1 S1 s1 walk_r⟩
theorem di_rng2 {tg a b : Expr} {g : EM (List D)} {p pos : Pos} (hg : Gl X "range") (hm : X.mg "range" = none) (ha : DA X W [a, b] g) (hs : starEach [a, b] X.env = [(false, eval a X.env), (false, eval b X.env)] := by rfl) (hs2 : starEach [b] X.env = [(false, eval b X.env)] := by rfl) :
    DI X W tg (.Call (.Name "range" p) [a, b] [] pos) (aRng rng2 g) := by
  refine pi_imp (pi_range2 hg hm ha hs hs2) fun σ H Rr hq => ?_
  obtain ⟨C, l, rw, G, S, hp⟩ := hq
  refine seqA (P := fun q => IPost X.K W C l σ H G q Rr) S hp (fun x w z H' G' S' => z H' G' S') (fun z => z) fun ds rw1 vs H1 G1 S1 s1 r1 h1 => ?_
  dsimp only at h1
  cases e : rng2 ds with
  | none => rw [e] at h1; exact h1.elim
  | some xs =>
    rw [e] at h1
    unfold rng2 at e
    split at e
    case h_2 => cases e
    case h_1 i j =>
      split at e
      case isFalse => cases e
      case isTrue hj =>
        cases e
        have rv : vs = [.int i, .int j] := Reps.ints (ns := [i, j]) r1
        exact ⟨i, j, rv, ⟨(small62 hj.1).1, (small62 hj.1).2, (small62 hj.2).1, (small62 hj.2).2⟩, h1 _ H1 G1 S1 s1 walk_r⟩

/-! ### comprehensions -/
end
def noX {α : Type} (r : R α) : R α := match r with
  | .exc _ _ => .stuck
  | q => q
def compL (tg : D → Dl → Option Dl) (c : EM Bool) (e : EM D) (lw : Dl) : List D → Rw → R (List D × Rw)
  | [], rw => .ok ([], rw)
  | d :: ds, rw => match tg d lw with
    | none => .stuck
    | some l1 => (noX (c l1 rw)).bind fun p => if p.1 = true then (noX (e l1 p.2)).bind fun q => (compL tg c e lw ds q.2).bind fun t => .ok (q.1 :: t.1, t.2) else compL tg c e lw ds p.2
def wipeD (l : Dl) : List Nat → Dl
  | [] => l
  | v :: vs => (wipeD l vs).set v .no
def eComp (g : EM (List D)) (tg : D → Dl → Option Dl) (c : EM Bool) (e : EM D) (vs : List Nat) : EM D := fun l rw => (g l rw).bind fun p => if p.1.length ≤ sizeLine then (compL tg c e (wipeD l vs) p.1 p.2).bind fun q => .ok (.lst q.1, q.2) else .stuck
def cYes : EM Bool := fun _ rw => .ok (true, rw)
abbrev W0 : WD := fun _ _ _ => False
section
variable {K : PySem.W.Frag} {W : WD} {C : C0} {l : Dl} {rw : Rw} {σ : St} {H G H' G' : Hp}
theorem SR.wiped (S : SR K C l rw σ H G) : ∀ vs : List Nat, SR K C (wipeD l vs) rw (wipe σ vs) H G
  | [] => S
  | v :: vs => by
    have S1 := SR.wiped S vs
    unfold wipeD wipe
    have S2 : SR K C ((wipeD l vs).set v .no) rw (wipe σ vs) H G := S1.forget
    refine ⟨S2.sub, S2.fr, S2.g0, S2.gn, by simp [S1.len], fun j x e => ?_, fun j k d' e' q hjk hj hk h1 h2 => ?_, S2.row⟩
    · by_cases h : v = j
      · subst h
        have hi : v < (wipeD l vs).length := by have := (List.getElem?_eq_some_iff.mp e).1; simpa using this
        rw [List.getElem?_set_self hi] at e
        cases e
        exact ⟨none, by rw [List.getElem?_set_self (by rw [S1.len]; exact hi)], trivial⟩
      · obtain ⟨u, e1, e2⟩ := S2.sl j x e
        exact ⟨u, by rw [List.getElem?_set_ne h]; exact e1, e2⟩
    · have n1 : v ≠ j := fun z => by
        subst z
        have hi : v < (wipeD l vs).length := by have := (List.getElem?_eq_some_iff.mp hj).1; simpa using this
        rw [List.getElem?_set_self hi] at hj; cases hj
      have n2 : v ≠ k := fun z => by
        subst z
        have hi : v < (wipeD l vs).length := by have := (List.getElem?_eq_some_iff.mp hk).1; simpa using this
        rw [List.getElem?_set_self hi] at hk; cases hk
      rw [List.getElem?_set_ne n1] at h1
      rw [List.getElem?_set_ne n2] at h2
      exact S2.ow j k d' e' q hjk hj hk h1 h2
theorem RowOk.updNe {r : Option Addr} {p : Addr} {o : HO} (w : RowOk K r rw H G) (hr : r ≠ some p) : RowOk K r rw (upd H p o) G := by
  unfold RowOk at w ⊢
  cases e : r with
  | none => rw [e] at w; cases rw <;> exact w
  | some a =>
    rw [e] at w
    cases rw with
    | none => exact w
    | some x =>
      obtain ⟨w1, v, w2, w3⟩ := w
      have ne : a ≠ p := fun z => hr (by rw [e, z])
      exact ⟨w1, v, by rw [upd_ne ne]; exact w2, w3⟩
/-- something in the heap that is not shown changes -/
theorem Gr.mutN {r : Option Addr} {H1 G1 : Hp} {p : Addr} {o : HO} (g : Gr r H G H1 G1) (hp : H p = none) (h1 : ∃ u, H1 p = some u) (hg : G1 p = none) : Gr r H G (upd H1 p o) G1 :=
  ⟨fun a u e ne => by rw [upd_ne (ne_of_none e hp)]; exact g.h a u e ne, g.g, g.n, fun a u e => by rw [upd_ne (ne_of_none e hg)]; exact g.s a u e, fun a u e => by
    rw [upd_ne (ne_of_none e hp)]; exact g.t a u e⟩
end
section
variable {X : Cx} {W : WD} {own : Bool}
/-- the body of the reading of a comprehension -/
theorem redLc {g : EM (List D)} {js : List Nat} {tg : D → Dl → Option Dl} {c : EM Bool} {e : EM D} {vs : List Nat} (hj : ∀ j ∈ js, j ∈ vs) :
    ∀ σ H Q, tO X.K W (eComp g tg c e vs) σ H Q → tLc (tI X.K W g) (tG X.K js tg) (tT X.K W0 c) (tD X.K W0 e) vs σ H Q := by
  intro σ H Q hq
  obtain ⟨C, l, rw, G, S, hp⟩ := hq
  refine seqI (P := POq X.K W C l σ H G Q) S hp (fun _ _ z => z) (fun z => z) fun ds rw1 J H1 G1 S1 s1 wd h1 => ?_
  dsimp only [POq] at h1
  by_cases hz : ds.length ≤ sizeLine
  case neg => rw [if_neg hz] at h1; exact h1.elim
  rw [if_pos hz] at h1
  intro D hD
  obtain ⟨hD0, hDr⟩ := S1.h0none hD
  have hDG := S1.gnone hD
  have HD0 : H D = none := by
    cases q : H D with
    | none => rfl
    | some o => obtain ⟨o', z⟩ := s1.t _ _ q; rw [hD] at z; cases z
  refine ⟨fun i m H2 => m = ds.length - i ∧ i ≤ ds.length ∧ ∃ rw2 G2 acc done, RowOk X.K C.r rw2 H2 G2 ∧ Gr C.r H1 G1 H2 G2 ∧ G2 D = none ∧ H2 D = some (.lst acc) ∧ acc.length ≤ i ∧ Reps X.K C.r G2 done acc ∧
    OPost X.K W C l σ H G ((compL tg c e (wipeD l vs) (ds.drop i) rw2).bind fun q => .ok (.lst (done ++ q.1), q.2)) Q, ⟨ds.length, rfl, Nat.zero_le _, rw1, G1, [], [], ?_, Gr.newO S1.sub hD, hDG, upd_same, Nat.le_refl _, Reps.nil, ?_⟩, ?_⟩
  · exact (S1.newO (o := .lst []) hD).row
  · rw [List.drop_zero]; exact h1
  rintro i m H2 ⟨rfl, hi, rw2, G2, acc, done, w2, g2, hDG2, hD2, ha, hr, h2⟩
  have S2 : SR X.K C l rw2 σ H2 G2 := S1.grow g2 w2
  have sub2 : Same G1 H2 := g2.g.trans S2.sub
  by_cases hlt : i < ds.length
  · refine .inr ⟨wd.go i H2 sub2 hlt, ?_⟩
    have hd : ds.drop i = ds[i] :: ds.drop (i + 1) := List.drop_eq_getElem_cons hlt
    rw [hd] at h2
    unfold compL at h2
    cases q : tg ds[i] (wipeD l vs) with
    | none => rw [q] at h2; exact h2.elim
    | some l3 =>
      rw [q] at h2
      dsimp only at h2
      refine ⟨fun H' => ∃ rw2 G2 acc done, RowOk X.K C.r rw2 H' G2 ∧ Gr C.r H1 G1 H' G2 ∧ G2 D = none ∧ H' D = some (.lst acc) ∧ acc.length ≤ i + 1 ∧ Reps X.K C.r G2 done acc ∧
        OPost X.K W C l σ H G ((compL tg c e (wipeD l vs) (ds.drop (i + 1)) rw2).bind fun q => .ok (.lst (done ++ q.1), q.2)) Q, fun H' hN => ⟨_, by omega, rfl, hlt, hN⟩, fun x H' y => ?_⟩
      obtain ⟨ey, r⟩ := wd.yld i H2 x H' sub2 y _ (List.getElem?_eq_getElem hlt)
      subst ey
      have S2w := S2.wiped vs
      refine ⟨C, wipeD l vs, rw2, G2, ds[i], l3, S2w, r.mono g2.g, q, fun σ' S' wj => ?_⟩
      have wp : ∀ (vs : List Nat) (σ : St), wipe (wipe σ vs) vs = wipe σ vs := by
        intro vs σ
        refine List.ext_getElem? fun j => ?_
        by_cases hv : j ∈ vs
        · by_cases hl : j < (wipe σ vs).length
          · have a1 : ∀ (τ : St), j < τ.length → (wipe τ vs)[j]? = some none := by
              intro τ hτ
              cases z : (wipe τ vs)[j]? with
              | none =>
                have := List.getElem?_eq_none_iff.mp z
                rw [wipe_length] at this; omega
              | some u =>
                cases u with
                | none => rfl
                | some v => exact absurd hv (wipe_some z).2
            rw [a1 _ hl, a1 _ (by rw [wipe_length] at hl; exact hl)]
          · rw [List.getElem?_eq_none (by rw [wipe_length]; omega), List.getElem?_eq_none (by omega)]
        · rw [wipe_out hv]
      refine ⟨by rw [wj vs hj, wp], ?_⟩
      refine ⟨C, l3, rw2, G2, S', ?_⟩
      have GRD : ∀ {H3 G3 : Hp}, Gr C.r H' G2 H3 G3 → H3 D = some (.lst acc) ∧ G3 D = none := fun {H3 G3} g3 => by
        refine ⟨g3.h _ _ hD2 hDr, ?_⟩
        cases z : G3 D with
        | none => rfl
        | some o =>
          rcases g3.n _ _ z with z | z
          · rw [hDG2] at z; cases z
          · rw [hD2] at z; cases z
      cases e1 : c l3 rw2 with
      | exc x w => rw [e1] at h2; exact h2.elim
      | stuck => rw [e1] at h2; exact h2.elim
      | ok p =>
        obtain ⟨b, rw3⟩ := p
        rw [e1] at h2
        intro H3 G3 S3 g3
        obtain ⟨hD3, hDG3⟩ := GRD g3
        replace h2 : OPost X.K W C l σ H G ((if b = true then (noX (e l3 rw3)).bind fun q => (compL tg c e (wipeD l vs) (ds.drop (i + 1)) q.2).bind fun t => .ok (q.1 :: t.1, t.2) else compL tg c e (wipeD l vs) (ds.drop (i + 1)) rw3).bind fun q => .ok (.lst (done ++ q.1), q.2)) Q := h2
        cases b with
        | false =>
          refine iteF ⟨rw3, G3, acc, done, S3.row, g2.trans g3, hDG3, hD3, by omega, hr.mono g3.g, ?_⟩
          simpa using h2
        | true =>
          refine iteT ?_
          rw [if_pos rfl] at h2
          refine ⟨C, l3, rw3, G3, S3, ?_⟩
          cases e2 : e l3 rw3 with
          | exc x w => rw [e2] at h2; exact h2.elim
          | stuck => rw [e2] at h2; exact h2.elim
          | ok p =>
            obtain ⟨d, rw4⟩ := p
            rw [e2] at h2
            intro v H4 G4 S4 g4 r4
            obtain ⟨hD4, hDG4⟩ := GRD (g3.trans g4)
            refine ⟨acc, hD4, by omega, rw4, G4, acc ++ [v], done ++ [d], ?_, ?_, hDG4, upd_same, by simp; omega, (hr.mono (g3.trans g4).g).append (Reps.cons r4 Reps.nil), ?_⟩
            · exact S4.row.updNe hDr
            · exact Gr.mutN ((g2.trans g3).trans g4) hD ⟨_, hD4⟩ hDG4
            · have : ∀ (q : R (List _root_.HD.D × Rw)), (((R.ok (d, rw4)).bind fun q => (compL tg c e (wipeD l vs) (ds.drop (i + 1)) q.2).bind fun t => .ok (q.1 :: t.1, t.2)).bind fun q => R.ok (_root_.HD.D.lst (done ++ q.1), q.2)) = (compL tg c e (wipeD l vs) (ds.drop (i + 1)) rw4).bind fun q => .ok (.lst (done ++ [d] ++ q.1), q.2) := by
                intro _
                show ((compL tg c e (wipeD l vs) (ds.drop (i + 1)) rw4).bind fun t => R.ok (d :: t.1, t.2)).bind _ = _
                cases compL tg c e (wipeD l vs) (ds.drop (i + 1)) rw4 with
                | ok p => simp [R.bind]
                | exc x w => rfl
                | stuck => rfl
              rw [← this .stuck]
              exact h2
  · have ei : i = ds.length := by omega
    subst ei
    rw [List.drop_length] at h2
    refine .inl ⟨wd.stop _ H2 sub2 (Nat.le_refl _), ?_⟩
    replace h2 : OPost X.K W C l σ H G (.ok (.lst (done ++ []), rw2)) Q := h2
    rw [List.append_nil] at h2
    exact h2 D H2 G2 S2 (s1.trans g2) HD0 ⟨D, rfl, hDG2, hD0, hDr, acc, hD2, by omega, hr⟩
end
end HD
end
section
/-! Rules of the data layer: comprehensions at their places, own things changed, borrowed; the row; calls; defs. -/
namespace HD
open PySem PySem.Spec L2
open PyProof.Rows hiding St

section
variable {X : Cx} {W : WD} {own : Bool}
theorem redFrz {K : PySem.W.Frag} {g : EM D} : ∀ σ H Q, tD K W g σ H Q → tO K W g σ H Q := by
  intro σ H Q hq
  obtain ⟨C, l, rw, G, S, hp⟩ := hq
  refine ⟨C, l, rw, G, S, ?_⟩
  cases e1 : g l rw with
  | exc x w => rw [e1] at hp; exact hp
  | stuck => rw [e1] at hp; exact hp
  | ok p =>
    obtain ⟨d, rw'⟩ := p
    rw [e1] at hp
    intro p H' G' S' s f ow
    obtain ⟨o, ho, hob, hg, h0, hr, _, _⟩ := ow.obj
    have nx : ∀ (i : Nat) e, l[i]? = some (.own e) → σ[i]? ≠ some (some (.ref p)) := fun i e hi hz => S.ownNe f i e hi hz
    refine hp (.ref p) H' (upd G' p o) (S'.freeze ho hg h0 hr nx) ?_ (hob.rep hg)
    have m : Same G' (upd G' p o) := fun a u e => by rw [upd_ne (ne_of_none e hg)]; exact e
    exact ⟨s.h, s.g.trans m, fun a u e => by
      by_cases ha : a = p
      · exact .inr (ha ▸ f)
      · rw [upd_ne ha] at e; exact s.n a u e, fun a u e => by
      by_cases ha : a = p
      · subst ha; rw [upd_same] at e; rw [ho]; exact e
      · rw [upd_ne ha] at e; exact s.s a u e, s.t⟩
abbrev DTs (X : Cx) (W : WD) (ifs : List Expr) (g : EM Bool) : Prop := PTs X ifs (tT X.K W g)
theorem dts_nil : DTs X W [] cYes := ⟨fun pins s σ H Q I hq => by
  obtain ⟨C, l, rw, G, S, hp⟩ := hq
  exact pts_nil.run pins s σ H Q I (hp H G S (Gr.refl S.sub))⟩
theorem dts_one {c : Expr} {g : EM Bool} (h : DT X W c g) : DTs X W [c] g := pts_one h
/-- [elt for target in iter if ..]: a new list -/
theorem do_lc {elt tgt iter : Expr} {ifs : List Expr} {scope : Scope} {ow : List (Str × Nat)} {pos : Pos} {g : EM (List D)} {js : List Nat} {tg : D → Dl → Option Dl} {c : EM Bool} {e : EM D} (hc : X.calm = true) (hN : X.N.Nodup) (hi : DI X W tgt iter g) (ok : BlkOk X.N X.env.scope scope ow)
    (hj : ∀ j ∈ js, j ∈ ow.map (·.2))
    (hg : ∀ (s : Shared) (H : Hp) (Cc : Addr) (cl : List (Str × Addr)) (fp : List Addr), DG (X.blk s H scope (compEnvC scope cl Cc X.env) fp) tgt js tg)
    (ht : ∀ (s : Shared) (H : Hp) (Cc : Addr) (cl : List (Str × Addr)) (fp : List Addr), DTs (X.blk s H scope (compEnvC scope cl Cc X.env) fp) W0 ifs c)
    (he : ∀ (s : Shared) (H : Hp) (Cc : Addr) (cl : List (Str × Addr)) (fp : List Addr), DE (X.blk s H scope (compEnvC scope cl Cc X.env) fp) W0 elt e) (hs : ∀ x, foldedSetIterable iter X.env x = pure x := by intro _; rfl) :
    DO X W (.ListComp elt [⟨tgt, iter, ifs, 0⟩] scope pos) (eComp g tg c e (ow.map (·.2))) := pe_imp (pe_lc (wi := tI X.K W g) (g := tG X.K js tg) (tt := tT X.K W0 c) (te := tD X.K W0 e) hc hN hi ok hg ht he hs) (redLc hj)
theorem ds_setLc {i : Nat} {y : Str} {py : Pos} {elt tgt iter : Expr} {ifs : List Expr} {scope : Scope} {ow : List (Str × Nat)} {pos spos : Pos} {g : EM (List D)} {js : List Nat} {tg : D → Dl → Option Dl} {c : EM Bool} {e : EM D} (hc : X.calm = true) (hN : X.N.Nodup) (hy : X.N[i]? = some y) (hyl : X.env.scope.names.lookup y = some .local)
    (hsw : swapsWith (.ListComp elt [⟨tgt, iter, ifs, 0⟩] scope pos) (some (.Name y py)) spos.line X.env = pure true) (hi : DI X W tgt iter g) (ok : BlkOk X.N X.env.scope scope ow) (hj : ∀ j ∈ js, j ∈ ow.map (·.2))
    (hg : ∀ (s : Shared) (H : Hp) (Cc : Addr) (cl : List (Str × Addr)) (fp : List Addr), DG (X.blk s H scope (compEnvC scope cl Cc X.env) fp) tgt js tg)
    (ht : ∀ (s : Shared) (H : Hp) (Cc : Addr) (cl : List (Str × Addr)) (fp : List Addr), DTs (X.blk s H scope (compEnvC scope cl Cc X.env) fp) W0 ifs c)
    (he : ∀ (s : Shared) (H : Hp) (Cc : Addr) (cl : List (Str × Addr)) (fp : List Addr), DE (X.blk s H scope (compEnvC scope cl Cc X.env) fp) W0 elt e) (hs : ∀ x, foldedSetIterable iter X.env x = pure x := by intro _; rfl) :
    DS X W own (.Assign [.Name y py] (.ListComp elt [⟨tgt, iter, ifs, 0⟩] scope pos) spos) (sSet i (eComp g tg c e (ow.map (·.2)))) := by
  refine ps_imp (ps_setLc (wi := tI X.K W g) (g := tG X.K js tg) (tt := tT X.K W0 c) (te := tD X.K W0 e) hc hN hy hyl hsw hi ok hg ht he hs) fun E σ H hq => ?_
  refine redLc (W := W) hj σ H _ (redFrz σ H _ ?_)
  obtain ⟨C, l, rw, G, S, hp⟩ := hq
  exact seqD (P := PSq X.K W own C E) S hp (fun x w z H' G' S' => z l σ H' G' S') (fun z => z) fun d rw1 v H1 G1 S1 s1 r1 h1 => h1 _ H1 G1 (S1.setV r1)
theorem ds_setLcO {i : Nat} {y : Str} {py : Pos} {elt tgt iter : Expr} {ifs : List Expr} {scope : Scope} {ow : List (Str × Nat)} {pos spos : Pos} {g : EM (List D)} {js : List Nat} {tg : D → Dl → Option Dl} {c : EM Bool} {e : EM D} (hc : X.calm = true) (hN : X.N.Nodup) (hy : X.N[i]? = some y) (hyl : X.env.scope.names.lookup y = some .local)
    (hsw : swapsWith (.ListComp elt [⟨tgt, iter, ifs, 0⟩] scope pos) (some (.Name y py)) spos.line X.env = pure true) (hi : DI X W tgt iter g) (ok : BlkOk X.N X.env.scope scope ow) (hj : ∀ j ∈ js, j ∈ ow.map (·.2))
    (hg : ∀ (s : Shared) (H : Hp) (Cc : Addr) (cl : List (Str × Addr)) (fp : List Addr), DG (X.blk s H scope (compEnvC scope cl Cc X.env) fp) tgt js tg)
    (ht : ∀ (s : Shared) (H : Hp) (Cc : Addr) (cl : List (Str × Addr)) (fp : List Addr), DTs (X.blk s H scope (compEnvC scope cl Cc X.env) fp) W0 ifs c)
    (he : ∀ (s : Shared) (H : Hp) (Cc : Addr) (cl : List (Str × Addr)) (fp : List Addr), DE (X.blk s H scope (compEnvC scope cl Cc X.env) fp) W0 elt e) (hs : ∀ x, foldedSetIterable iter X.env x = pure x := by intro _; rfl) :
    DS X W own (.Assign [.Name y py] (.ListComp elt [⟨tgt, iter, ifs, 0⟩] scope pos) spos) (sSetO i (eComp g tg c e (ow.map (·.2)))) := by
  refine ps_imp (ps_setLc (wi := tI X.K W g) (g := tG X.K js tg) (tt := tT X.K W0 c) (te := tD X.K W0 e) hc hN hy hyl hsw hi ok hg ht he hs) fun E σ H hq => ?_
  refine redLc (W := W) hj σ H _ ?_
  obtain ⟨C, l, rw, G, S, hp⟩ := hq
  exact seqO (P := PSq X.K W own C E) S hp (fun x w z H' G' S' => z l σ H' G' S') (fun z => z) fun d rw1 p H1 G1 S1 s1 f r1 h1 => h1 _ H1 G1 (S1.setO r1 fun j e _ hj hz => S.ownNe f j e hj hz)

/-! ### an own thing changed by a method -/
def tyD : D → String → Bool
  | .lst _, T => T == "list"
  | .dic _ _, T => T == "dict"
  | _, _ => false
def sMut (T : String) (i : Nat) (f : D → List D → Option D) (g : EM (List D)) : SM := fun l rw => match l[i]? with
  | some (.own d) => if tyD d T = true then (g l rw).bind fun p => (match f d p.1 with
    | some d' => .ok (.next, l.set i (.own d'), p.2)
    | none => .stuck) else .stuck
  | _ => .stuck
/-- target = own.method(..) -/
def sMutG (T : String) (i : Nat) (f : D → List D → Option (D × D)) (g : EM (List D)) (tg : D → Dl → Option Dl) : SM := fun l rw => match l[i]? with
  | some (.own d) => if tyD d T = true then (g l rw).bind fun p => (match f d p.1 with
    | some q => (match tg q.2 (l.set i (.own q.1)) with
      | some l' => .ok (.next, l', p.2)
      | none => .stuck)
    | none => .stuck) else .stuck
  | _ => .stuck
def MutD (K : PySem.W.Frag) (r : V → List V → Hp → VK → Prop) (f : D → List D → Option D) : Prop := ∀ (o : Option Addr) (G H : Hp) (d : D) (ds : List D) (p : Addr) (ob : HO) (vs : List V) (d' : D) (Q : VK), Same G H → H p = some ob → ObjD K o G d ob → Reps K o G ds vs → f d ds = some d' →
  isLD d' = true ∧ ((∀ ob', ObjD K o G d' ob' → Q .non (upd H p ob')) → r (.ref p) vs H Q)
def MutG (K : PySem.W.Frag) (r : V → List V → Hp → VK → Prop) (f : D → List D → Option (D × D)) : Prop := ∀ (o : Option Addr) (G H : Hp) (d : D) (ds : List D) (p : Addr) (ob : HO) (vs : List V) (q : D × D) (Q : VK), Same G H → H p = some ob → ObjD K o G d ob → Reps K o G ds vs → f d ds = some q →
  isLD q.1 = true ∧ ((∀ v ob', Rep K o G q.2 v → ObjD K o G q.1 ob' → Q v (upd H p ob')) → r (.ref p) vs H Q)
theorem tyD_ok {K : PySem.W.Frag} {o : Option Addr} {G H : Hp} {p : Addr} {d : D} {ob : HO} {T : String} (h : H p = some ob) (hob : ObjD K o G d ob) (ht : tyD d T = true) : tyV K T (.ref p) H := by
  cases d with
  | lst ds =>
    obtain ⟨vs, rfl, _⟩ := hob
    have e : T = "list" := by simpa [tyD] using ht
    subst e
    exact .inl ⟨rfl, _, .inl (.inl h)⟩
  | dic ks ds =>
    obtain ⟨kvs, vs, rfl, _⟩ := hob
    have e : T = "dict" := by simpa [tyD] using ht
    subst e
    exact .inr (.inr (.inl ⟨rfl, .inl ⟨kvs, h⟩⟩))
  | _ => cases ht
theorem ds_mut {i : Nat} {st : Stmt} {T : String} {r : V → List V → Hp → VK → Prop} {f : D → List D → Option D} {g : EM (List D)} (hst : PS X st (tDrop (tBM X.K T r (tVar i) (tA X.K W g)))) (hf : MutD X.K r f) : DS X W own st (sMut T i f g) := by
  refine ps_imp hst fun E σ H hq => ?_
  obtain ⟨C, l, rw, G, S, hp⟩ := hq
  unfold sMut at hp
  cases e0 : l[i]? with
  | none => rw [e0] at hp; exact hp.elim
  | some x =>
    rw [e0] at hp
    cases x with
    | no => exact hp.elim
    | val d => exact hp.elim
    | own d =>
      dsimp only at hp
      by_cases ht : tyD d T = true
      case neg => rw [if_neg ht] at hp; exact hp.elim
      rw [if_pos ht] at hp
      obtain ⟨p, e1, ow⟩ := S.ownAt e0
      obtain ⟨o, ho, hob, _⟩ := ow.obj
      refine ⟨.ref p, e1, tyD_ok ho hob ht, ?_⟩
      refine seqA (P := PSq X.K W own C E) S hp (fun x w z H' G' S' => z l σ H' G' S') (fun z => z) fun ds rw1 vs H1 G1 S1 s1 r1 h1 => ?_
      dsimp only [PSq] at h1
      cases q : f d ds with
      | none => rw [q] at h1; exact h1.elim
      | some d' =>
        rw [q] at h1
        obtain ⟨p', e1', ow1⟩ := S1.ownAt e0
        rw [e1] at e1'; cases e1'
        obtain ⟨o1, ho1, hob1, _⟩ := ow1.obj
        obtain ⟨hd', k⟩ := hf C.r G1 H1 d ds p o1 vs d' _ S1.sub ho1 hob1 r1 q
        exact k fun ob' hob' => h1 σ _ G1 (S1.mutAt e0 e1 hd' hob')
theorem ds_mutG {i : Nat} {tgt e : Expr} {pos : Pos} {T : String} {r : V → List V → Hp → VK → Prop} {f : D → List D → Option (D × D)} {g : EM (List D)} {js : List Nat} {tg : D → Dl → Option Dl} (hst : PS X (.Assign [tgt] e pos) (tAsg (tBM X.K T r (tVar i) (tA X.K W g)) (tG X.K js tg))) (hf : MutG X.K r f) : DS X W own (.Assign [tgt] e pos) (sMutG T i f g tg) := by
  refine ps_imp hst fun E σ H hq => ?_
  obtain ⟨C, l, rw, G, S, hp⟩ := hq
  unfold sMutG at hp
  cases e0 : l[i]? with
  | none => rw [e0] at hp; exact hp.elim
  | some x =>
    rw [e0] at hp
    cases x with
    | no => exact hp.elim
    | val d => exact hp.elim
    | own d =>
      dsimp only at hp
      by_cases ht : tyD d T = true
      case neg => rw [if_neg ht] at hp; exact hp.elim
      rw [if_pos ht] at hp
      obtain ⟨p, e1, ow⟩ := S.ownAt e0
      obtain ⟨o, ho, hob, _⟩ := ow.obj
      refine ⟨.ref p, e1, tyD_ok ho hob ht, ?_⟩
      refine seqA (P := PSq X.K W own C E) S hp (fun x w z H' G' S' => z l σ H' G' S') (fun z => z) fun ds rw1 vs H1 G1 S1 s1 r1 h1 => ?_
      dsimp only [PSq] at h1
      cases q : f d ds with
      | none => rw [q] at h1; exact h1.elim
      | some d' =>
        rw [q] at h1
        dsimp only at h1
        cases q2 : tg d'.2 (l.set i (.own d'.1)) with
        | none => rw [q2] at h1; exact h1.elim
        | some l' =>
          rw [q2] at h1
          obtain ⟨p', e1', ow1⟩ := S1.ownAt e0
          rw [e1] at e1'; cases e1'
          obtain ⟨o1, ho1, hob1, _⟩ := ow1.obj
          obtain ⟨hd', k⟩ := hf C.r G1 H1 d ds p o1 vs d' (fun x H2 => tG X.K js tg x σ H2 E.nx) S1.sub ho1 hob1 r1 q
          exact k fun v ob' rv hob' => ⟨C, _, rw1, G1, d'.2, l', S1.mutAt e0 e1 hd' hob', rv, q2, fun σ' S' _ => h1 σ' _ G1 S'⟩
/-! the methods -/
def fAppend : D → List D → Option D
  | .lst ds, [d] => if ds.length < sizeLine then some (.lst (ds ++ [d])) else none
  | _, _ => none
theorem mut_append {K : PySem.W.Frag} : MutD K rAppend fAppend := by
  intro o G H d ds p ob vs d' Q s hp hob rv e
  unfold fAppend at e
  split at e
  case h_2 => cases e
  case h_1 xs y =>
    obtain ⟨us, rfl, h1, h2⟩ := hob
    unfold Reps at rv
    obtain ⟨v, t, rfl, r1, r2⟩ := rv
    unfold Reps at r2
    subst r2
    split at e
    case isFalse => cases e
    case isTrue hl =>
      cases e
      refine ⟨rfl, fun k => ⟨p, us, v, rfl, rfl, hp, by rw [← h2.length]; exact hl, k _ ⟨_, rfl, ?_, h2.append (Reps.cons r1 Reps.nil)⟩⟩⟩
      rw [List.length_append, List.length_singleton, ← h2.length]; omega
def fPop0 : D → List D → Option (D × D)
  | .lst (d :: ds), [.int 0] => some (.lst ds, d)
  | _, _ => none
theorem mut_pop0 {K : PySem.W.Frag} : MutG K rPopAt fPop0 := by
  intro o G H d ds p ob vs q Q s hp hob rv e
  unfold fPop0 at e
  split at e
  case h_2 => cases e
  case h_1 x xs =>
    cases e
    obtain ⟨us, rfl, h1, h2⟩ := hob
    have ev : vs = [.int 0] := Reps.ints (ns := [0]) rv
    subst ev
    unfold Reps at h2
    obtain ⟨v, t, rfl, r1, r2⟩ := h2
    refine ⟨rfl, fun k => ⟨p, v :: t, 0, 0, v, rfl, rfl, hp, by decide, by decide, ?_, rfl, ?_⟩⟩
    · unfold seqIndex?
      simp
    · exact k v _ r1 ⟨t, rfl, by simp at h1; omega, r2⟩
def fExtend : D → List D → Option D
  | .lst ds, [.lst es] => if ds.length + es.length ≤ sizeLine then some (.lst (ds ++ es)) else none
  | _, _ => none
theorem mut_extend {K : PySem.W.Frag} : MutD K rExtend fExtend := by
  intro o G H d ds p ob vs d' Q s hp hob rv e
  unfold fExtend at e
  split at e
  case h_2 => cases e
  case h_1 xs ys =>
    obtain ⟨us, rfl, h1, h2⟩ := hob
    unfold Reps at rv
    obtain ⟨v, t, rfl, r1, r2⟩ := rv
    unfold Reps at r2
    subst r2
    unfold Rep at r1
    obtain ⟨a, ws, rfl, g1, g2, g3⟩ := r1
    split at e
    case isFalse => cases e
    case isTrue hl =>
      cases e
      refine ⟨rfl, fun k => ⟨p, a, us, ws, rfl, rfl, hp, s _ _ g1, by rw [← h2.length, ← g3.length]; exact hl, k _ ⟨_, rfl, ?_, h2.append g3⟩⟩⟩
      rw [List.length_append, ← h2.length, ← g3.length]; exact hl

/-! ### an own thing looked at -/
def isSc : D → Bool
  | .non => true
  | .bl _ => true
  | .int _ => true
  | .str _ => true
  | _ => false
/-- the thing at i as a value for one look; what is told is a number, a text, a truth value, None -/
def eBor (i : Nat) (g : EM D) : EM D := fun l rw => match l[i]? with
  | some (.own d) => (noX (g (l.set i (.val d)) rw)).bind fun p => if isSc p.1 = true then .ok p else .stuck
  | _ => .stuck
def tBor (i : Nat) (g : EM Bool) : EM Bool := fun l rw => match l[i]? with
  | some (.own d) => noX (g (l.set i (.val d)) rw)
  | _ => .stuck
theorem sc_rep {K : PySem.W.Frag} {o : Option Addr} {G G' : Hp} {d : D} {v : V} (h : isSc d = true) (r : Rep K o G d v) : Rep K o G' d v := by
  cases d <;> first | (unfold Rep at r ⊢; exact r) | (cases h)
section
variable {K : PySem.W.Frag} {C : C0} {l : Dl} {rw rw' : Rw} {σ : St} {H G H' G' : Hp} {d : D} {o : HO} {p : Addr} {i : Nat}
theorem SR.lend (S : SR K C l rw σ H G) (e0 : l[i]? = some (.own d)) : ∃ p o, σ[i]? = some (some (.ref p)) ∧ H p = some o ∧ G p = none ∧ C.r ≠ some p ∧ (∀ ob u, o ≠ .frz ob u) ∧ SR K C (l.set i (.val d)) rw σ H (upd G p o) := by
  obtain ⟨p, e1, ow⟩ := S.ownAt e0
  obtain ⟨o, ho, hob, hg, h0, hr, _, hf⟩ := ow.obj
  have S1 : SR K C (l.set i .no) rw σ H G := S.forget
  have nx : ∀ (j : Nat) e, (l.set i .no)[j]? = some (.own e) → σ[j]? ≠ some (some (.ref p)) := fun j e' hj hz => by
    by_cases h : i = j
    · subst h
      have hi : i < l.length := by have := (List.getElem?_eq_some_iff.mp hj).1; simpa using this
      rw [List.getElem?_set_self hi] at hj; cases hj
    · rw [List.getElem?_set_ne h] at hj
      exact S.ow i j d e' p h e0 hj e1 hz
  have S2 := (S1.freeze ho hg h0 hr nx).setV (i := i) (hob.rep hg)
  rw [List.set_set] at S2
  have es : σ.set i (some (.ref p)) = σ := by
    refine List.ext_getElem? fun j => ?_
    by_cases h : i = j
    · subst h; rw [List.getElem?_set_self (List.getElem?_eq_some_iff.mp e1).1, e1]
    · rw [List.getElem?_set_ne h]
  rw [es] at S2
  exact ⟨p, o, e1, ho, hg, hr, hf, S2⟩
def hide (G : Hp) (p : Addr) : Hp := fun a => if a = p then none else G a
theorem SR.back (S : SR K C l rw σ H G) (e0 : l[i]? = some (.own d)) (e1 : σ[i]? = some (some (.ref p))) (ho : H p = some o) (hg : G p = none) (hr : C.r ≠ some p) (hf : ∀ ob u, o ≠ .frz ob u) (S' : SR K C (l.set i (.val d)) rw' σ H' G') (g : Gr C.r H (upd G p o) H' G') :
    Gr C.r H G H' (hide G' p) ∧ SR K C l rw' σ H' (hide G' p) := by
  have g' : Gr C.r H G H' (hide G' p) := by
    refine ⟨g.h, fun a u e => ?_, fun a u e => ?_, fun a u e => ?_, g.t⟩
    · have ne : a ≠ p := ne_of_none e hg
      unfold hide
      rw [if_neg ne]
      exact g.g a u (by rw [upd_ne ne]; exact e)
    · unfold hide at e
      by_cases ne : a = p
      · rw [if_pos ne] at e; cases e
      · rw [if_neg ne] at e
        rcases g.n a u e with z | z
        · rw [upd_ne ne] at z; exact .inl z
        · exact .inr z
    · unfold hide at e
      by_cases ne : a = p
      · rw [if_pos ne] at e; cases e
      · rw [if_neg ne] at e; exact g.s a u e
  refine ⟨g', S.grow g' ?_⟩
  have w := S'.row
  unfold RowOk at w ⊢
  cases e : C.r with
  | none => rw [e] at w; cases rw' <;> exact w
  | some a =>
    rw [e] at w
    cases rw' with
    | none => exact w
    | some x =>
      obtain ⟨w1, v, w2, w3⟩ := w
      refine ⟨?_, v, w2, ?_⟩
      · unfold hide; split <;> first | rfl | exact w1
      · unfold Rep at w3 ⊢
        obtain ⟨b, rfl, w4, w5⟩ := w3
        refine ⟨b, rfl, w4.imp (fun ⟨ob, q⟩ => ⟨ob, ?_⟩) id, w5⟩
        have ne : b ≠ p := fun z => by
          subst z
          have := g.h b o ho hr
          have q2 := S'.sub _ _ q
          rw [this] at q2
          exact hf _ _ (Option.some.inj q2)
        unfold hide
        rw [if_neg ne]
        exact q
end
theorem de_bor {i : Nat} {e : Expr} {g : EM D} (h : DE X W e g) : DE X W e (eBor i g) := by
  refine pe_imp h fun σ H Q hq => ?_
  obtain ⟨C, l, rw, G, S, hp⟩ := hq
  unfold eBor at hp
  cases e0 : l[i]? with
  | none => rw [e0] at hp; exact hp.elim
  | some x =>
    rw [e0] at hp
    cases x with
    | no => exact hp.elim
    | val d => exact hp.elim
    | own d =>
      dsimp only at hp
      obtain ⟨p, o, e1, ho, hg, hr, hf, S1⟩ := S.lend e0
      refine ⟨C, _, rw, _, S1, ?_⟩
      cases e2 : g (l.set i (.val d)) rw with
      | exc x w => rw [e2] at hp; exact hp.elim
      | stuck => rw [e2] at hp; exact hp.elim
      | ok q =>
        obtain ⟨r, rw'⟩ := q
        rw [e2] at hp
        intro v H' G' S' g' rv
        replace hp : EPost X.K W C l σ H G (if isSc r = true then .ok (r, rw') else .stuck) Q := hp
        by_cases hs : isSc r = true
        · rw [if_pos hs] at hp
          obtain ⟨g2, S2⟩ := S.back e0 e1 ho hg hr hf S' g'
          exact hp v H' _ S2 g2 (sc_rep hs rv)
        · rw [if_neg hs] at hp; exact hp.elim
theorem dt_bor {i : Nat} {e : Expr} {g : EM Bool} (h : DT X W e g) : DT X W e (tBor i g) := by
  refine pt_imp h fun σ H Q hq => ?_
  obtain ⟨C, l, rw, G, S, hp⟩ := hq
  unfold tBor at hp
  cases e0 : l[i]? with
  | none => rw [e0] at hp; exact hp.elim
  | some x =>
    rw [e0] at hp
    cases x with
    | no => exact hp.elim
    | val d => exact hp.elim
    | own d =>
      dsimp only at hp
      obtain ⟨p, o, e1, ho, hg, hr, hf, S1⟩ := S.lend e0
      refine ⟨C, _, rw, _, S1, ?_⟩
      cases e2 : g (l.set i (.val d)) rw with
      | exc x w => rw [e2] at hp; exact hp.elim
      | stuck => rw [e2] at hp; exact hp.elim
      | ok q =>
        obtain ⟨r, rw'⟩ := q
        rw [e2] at hp
        intro H' G' S' g'
        obtain ⟨g2, S2⟩ := S.back e0 e1 ho hg hr hf S' g'
        exact hp H' _ S2 g2
/-! tuple(own), list(own), own + .. -/
def eTupO (i : Nat) : EM D := fun l rw => match l[i]? with
  | some (.own (.lst ds)) => .ok (.tup ds, rw)
  | _ => .stuck
theorem de_tupO {i : Nat} {e : Expr} (h : PE X e (tCB (fun xs H Q => ∃ p ys, xs = [.ref p] ∧ ((SqL X.K H p ys ∧ ∀ l, H l = none → Q (.ref l) (upd H l (.tup ys))) ∨ (SqT X.K H p ys ∧ Q (.ref p) H))) (tCons (tVar i) tNil))) : DE X W e (eTupO i) := by
  refine pe_imp h fun σ H Q hq => ?_
  obtain ⟨C, l, rw, G, S, hp⟩ := hq
  unfold eTupO at hp
  split at hp
  case h_2 => exact hp.elim
  case h_1 ds e0 =>
    obtain ⟨p, e1, q, e2, hg, h0, hr, vs, a1, a2, a3⟩ := S.ownAt e0
    cases e2
    refine ⟨_, e1, p, vs, rfl, .inl ⟨.of a1, fun t ht => ?_⟩⟩
    exact hp (.ref t) _ _ (S.new ht) (Gr.new S.sub ht) (ObjD.rep (d := .tup ds) ⟨vs, rfl, a2, a3⟩ (S.gnone ht))
/-- own + list -/
def eCatO (i : Nat) (g : EM D) : EM D := fun l rw => match l[i]? with
  | some (.own (.lst ds)) => (g l rw).bind fun p => (match p.1 with
    | .lst es => if ds.length + es.length ≤ sizeLine then .ok (.lst (ds ++ es), p.2) else .stuck
    | _ => .stuck)
  | _ => .stuck
theorem de_catO {i : Nat} {e : Expr} {g : EM D} (h : PE X e (tOp rCat (tVar i) (tD X.K W g))) : DE X W e (eCatO i g) := by
  refine pe_imp h fun σ H Q hq => ?_
  obtain ⟨C, l, rw, G, S, hp⟩ := hq
  unfold eCatO at hp
  split at hp
  case h_2 => exact hp.elim
  case h_1 ds e0 =>
    obtain ⟨p, e1, _⟩ := S.ownAt e0
    refine ⟨_, e1, ?_⟩
    refine seqD (P := PEq X.K W C l σ H G Q) S hp (fun _ _ z => z) (fun z => z) fun d1 rw1 v1 H1 G1 S1 s1 r1 h1 => ?_
    obtain ⟨p', e1', q, e2, hg, h0, hr, vs, a1, a2, a3⟩ := S1.ownAt e0
    rw [e1] at e1'; cases e1'; cases e2
    dsimp only [PEq] at h1
    cases d1 with
    | lst es =>
      dsimp only at h1
      unfold Rep at r1
      obtain ⟨a, us, rfl, b1, b2, b3⟩ := r1
      by_cases hz : ds.length + es.length ≤ sizeLine
      · rw [if_pos hz] at h1
        have hz' : vs.length + us.length ≤ sizeLine := by rw [← a3.length, ← b3.length]; exact hz
        refine ⟨p, a, vs, us, rfl, rfl, a1, S1.sub _ _ b1, hz', fun t ht => ?_⟩
        exact h1 (.ref t) _ _ (S1.new ht) (s1.trans (Gr.new S1.sub ht)) (ObjD.rep (d := .lst (ds ++ es)) ⟨vs ++ us, rfl, by rw [List.length_append]; exact hz', a3.append b3⟩ (S1.gnone ht))
      · rw [if_neg hz] at h1; exact h1.elim
    | _ => exact h1.elim

/-! ### the row -/
/-- row[0], row[1], row[2] -/
def eRow (k : Nat) (i : Nat) : EM D := fun l rw => match l[i]?, rw with
  | some (.val .row), some w => (match k with
    | 0 => .ok (.scr w.ns, rw)
    | 1 => .ok (.int w.ix, rw)
    | 2 => .ok (.int w.mx, rw)
    | _ => .stuck)
  | _, _ => .stuck
theorem de_row {i k : Nat} {e : Expr} (h : PE X e (tOp (rIxL X.K) (tVar i) (tC (.int (k : Int))))) : DE X W e (eRow k i) := by
  refine pe_imp h fun σ H Q hq => ?_
  obtain ⟨C, l, rw, G, S, hp⟩ := hq
  unfold eRow at hp
  cases e0 : l[i]? with
  | none => rw [e0] at hp; exact hp.elim
  | some x =>
    rw [e0] at hp
    cases x with
    | no => exact hp.elim
    | own d => exact hp.elim
    | val d =>
      cases d with
      | row =>
        cases rw with
        | none => exact hp.elim
        | some w =>
          dsimp only at hp
          obtain ⟨v, e1, u, e2, r⟩ := S.sl i _ e0
          subst e2
          unfold Rep at r
          obtain ⟨a, ea, rfl⟩ := r
          have wr := S.row
          unfold RowOk at wr
          rw [ea] at wr
          obtain ⟨w1, v, w2, w3⟩ := wr
          refine ⟨_, e1, a, _, k, ?_, rfl, rfl, .of w2, ?_⟩
          · exact match k with
              | 0 => v
              | 1 => .int w.ix
              | _ => .int w.mx
          · match k, hp with
            | 0, hp => exact ⟨atI_nat rfl, hp v H G S (Gr.refl S.sub) (by rw [ea]; exact w3)⟩
            | 1, hp => exact ⟨atI_nat rfl, hp _ H G S (Gr.refl S.sub) (by unfold Rep; rfl)⟩
            | 2, hp => exact ⟨atI_nat rfl, hp _ H G S (Gr.refl S.sub) (by unfold Rep; rfl)⟩
            | k + 3, hp => exact hp.elim
      | _ => exact hp.elim
/-- row[1] = .., row[2] = .. -/
def sRow (k : Nat) (i : Nat) (g : EM D) : SM := fun l rw => (g l rw).bind fun p => match l[i]?, p.2, p.1 with
  | some (.val .row), some w, .int z => (match k with
    | 1 => .ok (.next, l, some { w with ix := z })
    | 2 => .ok (.next, l, some { w with mx := z })
    | _ => .stuck)
  | _, _, _ => .stuck
theorem ds_row {i k : Nat} {st : Stmt} {g : EM D} (h : PS X st (tAsg (tD X.K W g) (gSub (tVar i) (tC (.int (k : Int))) rSetL))) : DS X W own st (sRow k i g) := by
  refine ps_imp h fun E σ H hq => ?_
  obtain ⟨C, l, rw, G, S, hp⟩ := hq
  refine seqD (P := PSq X.K W own C E) S hp (fun x w z H' G' S' => z l σ H' G' S') (fun z => z) fun d rw1 v H1 G1 S1 s1 r1 h1 => ?_
  dsimp only [PSq] at h1
  cases e0 : l[i]? with
  | none => rw [e0] at h1; exact h1.elim
  | some x =>
    rw [e0] at h1
    cases x with
    | no => exact h1.elim
    | own d => exact h1.elim
    | val d0 =>
      cases d0 with
      | row =>
        cases rw1 with
        | none => exact h1.elim
        | some w =>
          cases d with
          | int z =>
            dsimp only at h1
            unfold Rep at r1
            subst r1
            obtain ⟨v, e1, u, e2, r⟩ := S1.sl i _ e0
            subst e2
            unfold Rep at r
            obtain ⟨a, ea, rfl⟩ := r
            have wr := S1.row
            unfold RowOk at wr
            rw [ea] at wr
            obtain ⟨w1, v, w2, w3⟩ := wr
            have key : ∀ ix mx, SR X.K C l (some ⟨w.ns, ix, mx⟩) σ (upd H1 a (.lst [v, .int ix, .int mx])) G1 := fun ix mx => by
              refine S1.grow ⟨fun b o e ne => ?_, Same.refl _, fun b o e => .inl e, fun b o e => ?_, fun b o e => ?_⟩ ?_
              · rw [upd_ne (fun z => ne (by rw [ea, z]))]; exact e
              · rw [upd_ne (ne_of_none e w1)]; exact S1.sub _ _ e
              · by_cases hb : b = a
                · subst hb; exact ⟨_, upd_same⟩
                · exact ⟨o, by rw [upd_ne hb]; exact e⟩
              · unfold RowOk
                rw [ea]
                exact ⟨w1, v, upd_same, w3⟩
            match k, h1 with
            | 1, h1 => exact ⟨_, e1, a, _, 1, 1, rfl, rfl, w2, rfl, h1 σ _ _ (key z w.mx)⟩
            | 2, h1 => exact ⟨_, e1, a, _, 2, 2, rfl, rfl, w2, rfl, h1 σ _ _ (key w.ix z)⟩
            | 0, h1 => exact h1.elim
            | k + 3, h1 => exact h1.elim
          | _ => exact h1.elim
      | _ => exact h1.elim
end
end HD
end
section
/-! The data layer: defs and their calls. -/
namespace HD
open PySem PySem.Spec L2
open PyProof.Rows hiding St

/-- what a def tells of given trees: n parameters, m names -/
def dDef (own : Bool) (n m : Nat) (body : SM) : FD := fun ds rw => if ds.length = n then (body (ds.map .val ++ List.replicate (m - n) .no) rw).bind fun p => match p.1 with
  | .ret d => .ok (d, p.2.2)
  | .next => if own = true then .stuck else .ok (.non, p.2.2)
  | _ => .stuck else .stuck
def FRet (K : PySem.W.Frag) (own : Bool) (r : Option Addr) (H H' G' : Hp) (d : D) (v : V) : Prop :=
  if own = true then ∃ p o, v = .ref p ∧ H p = none ∧ H' p = some o ∧ G' p = none ∧ ObjD K r G' d o ∧ isLD d = true else Rep K r G' d v
/-- how an exception is wished for -/
abbrev XW := XK → Exn → Hp → Prop
abbrev XW0 : XW := fun _ _ _ => False
def FPost (K : PySem.W.Frag) (own : Bool) (xw : XW) (r : Option Addr) (H G : Hp) (q : R (D × Rw)) (Q : VK) (E : XK) : Prop :=
  match q with
  | .ok (d, rw') => ∀ v H' G', Gr r H G H' G' → RowOk K r rw' H' G' → FRet K own r H H' G' d v → Q v H'
  | .exc x rw' => ∀ H' G', Gr r H G H' G' → RowOk K r rw' H' G' → xw E x H'
  | .stuck => False
def spD (K : PySem.W.Frag) (own : Bool) (xw : XW) (F : FD) : Sp := fun vs H Q E => ∃ r G ds rw, Same G H ∧ Reps K r G ds vs ∧ RowOk K r rw H G ∧ FPost K own xw r H G (F ds rw) Q E

theorem SR.start {K : PySem.W.Frag} {r : Option Addr} {G H : Hp} {ds : List D} {vs : List V} {rw : Rw} {N : List Str} {n : Nat} (s : Same G H) (q : Reps K r G ds vs) (w : RowOk K r rw H G) (hn : ds.length = n) : SR K ⟨r, H, G⟩ (ds.map .val ++ List.replicate (N.length - n) .no) rw (start N vs) H G := by
  have hl := q.length
  have lookup : ∀ (i : Nat) x, (ds.map Sl.val ++ List.replicate (N.length - n) Sl.no)[i]? = some x → (∃ d, ds[i]? = some d ∧ x = .val d) ∨ (x = .no ∧ ds.length ≤ i ∧ i - ds.length < N.length - n) := fun i x e => by
    by_cases h : i < ds.length
    · rw [List.getElem?_append_left (by simpa using h), List.getElem?_map, List.getElem?_eq_getElem h] at e
      cases e
      exact .inl ⟨_, List.getElem?_eq_getElem h, rfl⟩
    · rw [List.getElem?_append_right (by simpa using h), List.getElem?_replicate] at e
      split at e
      · cases e
        rename_i hlt
        exact .inr ⟨rfl, by omega, by simpa using hlt⟩
      · cases e
  refine ⟨s, fun a o e _ => e, Same.refl _, fun a o e => .inl e, ?_, fun i x e => ?_, fun i j d e p hij hi hj _ => ?_, w⟩
  · unfold L2.start
    simp
    omega
  · rcases lookup i x e with ⟨d, hd, rfl⟩ | ⟨rfl, h1, h2⟩
    · obtain ⟨v, hv, rv⟩ := q.get hd
      refine ⟨some v, ?_, v, rfl, rv⟩
      unfold L2.start
      rw [List.getElem?_append_left (by rw [List.length_map]; exact (List.getElem?_eq_some_iff.mp hv).1), List.getElem?_map, hv]
      rfl
    · refine ⟨none, ?_, trivial⟩
      unfold L2.start
      rw [List.getElem?_append_right (by rw [List.length_map, ← hl]; exact h1), List.getElem?_replicate, if_pos]
      rw [List.length_map, ← hl, hn]
      omega
  · rcases lookup i _ hi with ⟨_, _, z⟩ | ⟨z, _⟩ <;> cases z
theorem SR.gr {K : PySem.W.Frag} {r : Option Addr} {G H H' G' : Hp} {l : Dl} {rw rw0 : Rw} {σ : St} (w0 : RowOk K r rw0 H G) (S : SR K ⟨r, H, G⟩ l rw σ H' G') : Gr r H G H' G' := by
  refine ⟨fun a o e ne => S.fr a o e ne, S.g0, fun a o e => S.gn a o e, S.sub, fun a o e => ?_⟩
  by_cases ne : r = some a
  · have w := S.row
    unfold RowOk at w
    dsimp only at w
    rw [ne] at w
    cases rw with
    | none => exact w.elim
    | some x => obtain ⟨_, v, w2, _⟩ := w; exact ⟨_, w2⟩
  · exact ⟨o, S.fr a o e ne⟩

section
variable {P : Program} {w : World} {K : PySem.W.Frag} {mg : Str → Option Value} {base : Heap} {x qual : Str} {params : Arguments} {body : List Stmt} {scope : Scope} {dvs : List V} {kws : List (Str × V)} {f : Addr} {fd : FuncData}
theorem own_fret {C : C0} {H H' G' : Hp} {own : Bool} {d : D} {v : V} (h0 : C.H0 = H) (r : RetRep K own C H' G' d v) : FRet K own C.r H H' G' d v := by
  subst h0
  unfold RetRep at r
  unfold FRet
  cases own with
  | false => exact r
  | true =>
    simp only [if_true] at r ⊢
    obtain ⟨p, rfl, _⟩ := id r
    obtain ⟨o, h1, h2, h3, h4, h5, h6, _⟩ := r.obj
    exact ⟨p, o, rfl, h4, h1, h3, h2, h6⟩
theorem sp_start {own : Bool} {n : Nat} {N : List Str} {den : SM} {xw : XW} {W : WD} {vs : List V} {H : Hp} {Q : VK} {E : XK} {t : TS} (ht : ∀ (E' : Ends) σ H', tS K W own den E' σ H' → t E' σ H') (hW : ∀ x σ H', (W x σ H' ↔ xw E x H'))
    (h : spD K own xw (dDef own n N.length den) vs H Q E) : t { nx := fun _ H' => Q .non H', rt := Q } (start N vs) H := by
  obtain ⟨r, G, ds, rw, s, q, wr, hp⟩ := h
  unfold dDef at hp
  by_cases hn : ds.length = n
  case neg => rw [if_neg hn] at hp; exact hp.elim
  rw [if_pos hn] at hp
  refine ht _ _ _ ⟨⟨r, H, G⟩, _, rw, G, SR.start s q wr hn, ?_⟩
  cases e : den (ds.map .val ++ List.replicate (N.length - n) .no) rw with
  | stuck => rw [e] at hp; exact hp.elim
  | exc x w => rw [e] at hp; exact fun l' σ' H' G' S' => (hW x σ' H').mpr (hp H' G' (S'.gr wr) S'.row)
  | ok p =>
    obtain ⟨fl, l', rw'⟩ := p
    rw [e] at hp
    cases fl with
    | brk => exact hp.elim
    | cont => exact hp.elim
    | ret d => exact fun v σ' H' G' S' rr => hp v H' G' (S'.gr wr) S'.row (own_fret (C := ⟨r, H, G⟩) rfl rr)
    | next =>
      intro σ' H' G' S'
      cases own with
      | true => exact hp.elim
      | false => exact hp .non H' G' (S'.gr wr) S'.row (by unfold FRet; rw [if_neg Bool.false_ne_true]; unfold Rep; rfl)
theorem sp_len {own : Bool} {n m : Nat} {den : SM} {xw : XW} {vs : List V} {H : Hp} {Q : VK} {E : XK} (h : spD K own xw (dDef own n m den) vs H Q E) : vs.length = n := by
  obtain ⟨r, G, ds, rw, s, q, wr, hp⟩ := h
  rw [← q.length]
  unfold dDef at hp
  by_cases hn : ds.length = n
  · exact hn
  · rw [if_neg hn] at hp; exact hp.elim
/-- a def that lets nothing out -/
theorem fn_den {own : Bool} {N ps : List Str} {k : Nat} {den : SM} (F : FunD K x qual params body scope dvs kws f fd) (S : FnScope N ps scope)
    (hb : ∀ (cdv : Value) (A : Around) (outer : List Env) (s : Shared) (H : Hp) (E : XK), Room k (A.deeper (envOfC qual scope s.heap.objs.size f cdv)) → DSs (cxOf (fun _ _ _ _ _ _ => False) P w K mg base N qual scope f cdv A outer s H E).nox W0 own body den) :
    FnOk P w K mg base (fun _ _ _ _ _ _ => False) (k + 1) f fd ps (spD K own XW0 (dDef own ps.length N.length den)) :=
  F.ok S (fun vs H Q E h => sp_len h) fun cdv A outer s H vs Q E hr h => ⟨_, PSs.nox (hb cdv A outer s H E hr), sp_start (fun _ _ _ z => z) (fun _ _ _ => Iff.rfl) h⟩
end

/-! ### calls -/
def eCall (F : FD) (g : EM (List D)) : EM D := fun l rw => (g l rw).bind fun p => F p.1 p.2
section
variable {X : Cx} {W : WD}
theorem redCall {F : FD} {g : EM (List D)} {xw : XW} {E : XK} (hx : ∀ x σ H, W x σ H → xw E x H) : ∀ σ H Q, tD X.K W (eCall F g) σ H Q → tCall (spD X.K false xw F) [] E (tA X.K W g) σ H Q := by
  intro σ H Q hq
  obtain ⟨C, l, rw, G, S, hp⟩ := hq
  refine seqA (P := PEq X.K W C l σ H G Q) S hp (fun _ _ z => z) (fun z => z) fun ds rw1 vs H1 G1 S1 s1 r1 h1 => ?_
  dsimp only [PEq] at h1
  refine ⟨C.r, G1, ds, rw1, S1.sub, by rw [List.append_nil]; exact r1, S1.row, ?_⟩
  cases e : F ds rw1 with
  | stuck => rw [e] at h1; exact h1.elim
  | exc x w =>
    rw [e] at h1
    exact fun H' G' g' w' => hx x σ H' (h1 H' G' (S1.grow g' w'))
  | ok p =>
    obtain ⟨d, rw'⟩ := p
    rw [e] at h1
    intro v H' G' g' w' rr
    unfold FRet at rr
    rw [if_neg Bool.false_ne_true] at rr
    exact h1 v H' G' (S1.grow g' w') (s1.trans g') rr
theorem redCallO {F : FD} {g : EM (List D)} {xw : XW} {E : XK} (hx : ∀ x σ H, W x σ H → xw E x H) : ∀ σ H Q, tO X.K W (eCall F g) σ H Q → tCall (spD X.K true xw F) [] E (tA X.K W g) σ H Q := by
  intro σ H Q hq
  obtain ⟨C, l, rw, G, S, hp⟩ := hq
  refine seqA (P := POq X.K W C l σ H G Q) S hp (fun _ _ z => z) (fun z => z) fun ds rw1 vs H1 G1 S1 s1 r1 h1 => ?_
  dsimp only [POq] at h1
  refine ⟨C.r, G1, ds, rw1, S1.sub, by rw [List.append_nil]; exact r1, S1.row, ?_⟩
  cases e : F ds rw1 with
  | stuck => rw [e] at h1; exact h1.elim
  | exc x w =>
    rw [e] at h1
    exact fun H' G' g' w' => hx x σ H' (h1 H' G' (S1.grow g' w'))
  | ok p =>
    obtain ⟨d, rw'⟩ := p
    rw [e] at h1
    intro v H' G' g' w' rr
    unfold FRet at rr
    rw [if_pos rfl] at rr
    obtain ⟨p, o, rfl, hp1, ho, hg, hob, hd⟩ := rr
    obtain ⟨h0, hr⟩ := S1.h0none hp1
    refine h1 p H' G' (S1.grow g' w') (s1.trans g') ?_ ⟨p, rfl, hg, h0, hr, ?_⟩
    · cases q : H p with
      | none => rfl
      | some o => obtain ⟨o', z⟩ := s1.t _ _ q; rw [hp1] at z; cases z
    · cases d with
      | lst ds => obtain ⟨vs, rfl, b1, b2⟩ := hob; exact ⟨vs, ho, b1, b2⟩
      | dic ks ds => obtain ⟨kvs, vs, rfl, b1, b2, b3, b4⟩ := hob; exact ⟨kvs, vs, ho, b1, b2, b3, b4⟩
      | _ => cases hd
section
variable {k : Nat} {f : Addr} {fd : FuncData} {ps : List Str} {F : FD} {x : Str} {p pos : Pos} {e : Expr} {es : List Expr} {g : EM (List D)}
/-- f(a, ..), a def that lets nothing out -/
theorem de_call (Fo : FnOk X.prog X.w X.K X.mg X.base (fun _ _ _ _ _ _ => False) k f fd ps (spD X.K false XW0 F)) (hr : Room k X.A) (hg : Gl X x) (hm : X.mg x = some (.ref f)) (hk : PySem.W.keepIn X.K (.ref f) = true) (hb : Binds X.K fd ps [])
    (ha : DA X W0 (e :: es) g) (hdb : (x == ("__debug__" : Str)) = false := by decide) (he : starEach (e :: es) X.env = (false, eval e X.env) :: starEach es X.env := by rfl) (hpl : (backTo pos (starEach es X.env)).any (·.1) = false := by rfl) :
    DE X W0 (.Call (.Name x p) (e :: es) [] pos) (eCall F g) := pe_imp (pe_call Fo hr hg hm hk hb .nil (E := fun _ _ _ => False) (fun _ _ _ _ _ _ _ h => h.elim) ha hdb he hpl) (redCall fun _ _ _ z => z)
theorem do_call (Fo : FnOk X.prog X.w X.K X.mg X.base (fun _ _ _ _ _ _ => False) k f fd ps (spD X.K true XW0 F)) (hr : Room k X.A) (hg : Gl X x) (hm : X.mg x = some (.ref f)) (hk : PySem.W.keepIn X.K (.ref f) = true) (hb : Binds X.K fd ps [])
    (ha : DA X W0 (e :: es) g) (hdb : (x == ("__debug__" : Str)) = false := by decide) (he : starEach (e :: es) X.env = (false, eval e X.env) :: starEach es X.env := by rfl) (hpl : (backTo pos (starEach es X.env)).any (·.1) = false := by rfl) :
    DO X W0 (.Call (.Name x p) (e :: es) [] pos) (eCall F g) := pe_imp (pe_call Fo hr hg hm hk hb .nil (E := fun _ _ _ => False) (fun _ _ _ _ _ _ _ h => h.elim) ha hdb he hpl) (redCallO fun _ _ _ z => z)
end
end
end HD
end
section
/-! The data layer: what operators and built-ins tell. -/
namespace HD
open PySem PySem.Spec L2
open PyProof.Rows hiding St

theorem OpD.or {K : PySem.W.Frag} {r r' : R2} {f g h : D → D → Option D} (hf : OpD K r f) (hg : OpD K r' g) (i : ∀ x y d, h x y = some d → f x y = some d ∨ g x y = some d) : OpD K (fun x y H Q => r x y H Q ∨ r' x y H Q) h := by
  intro o G H d1 d2 v1 v2 d Q s r1 r2 e q
  rcases i _ _ _ e with e | e
  · exact .inl (hf o G H d1 d2 v1 v2 d Q s r1 r2 e q)
  · exact .inr (hg o G H d1 d2 v1 v2 d Q s r1 r2 e q)
theorem CmpD.or {K : PySem.W.Frag} {r r' : R2} {f g h : D → D → Option D} (hf : CmpD K r f) (hg : CmpD K r' g) (i : ∀ x y d, h x y = some d → f x y = some d ∨ g x y = some d) : CmpD K (fun x y H Q => r x y H Q ∨ r' x y H Q) h := by
  intro o G H d1 d2 v1 v2 d Q s r1 r2 e q
  rcases i _ _ _ e with e | e
  · exact .inl (hf o G H d1 d2 v1 v2 d Q s r1 r2 e q)
  · exact .inr (hg o G H d1 d2 v1 v2 d Q s r1 r2 e q)
theorem OpD.imp {K : PySem.W.Frag} {r : R2} {f g : D → D → Option D} (h : OpD K r f) (i : ∀ x y d, g x y = some d → f x y = some d) : OpD K r g := fun o G H d1 d2 v1 v2 d Q s r1 r2 e q => h o G H d1 d2 v1 v2 d Q s r1 r2 (i _ _ _ e) q

/-! ### arithmetic -/
def fAddI : D → D → Option D
  | .int i, .int j => some (.int (i + j))
  | _, _ => none
def fAddS : D → D → Option D
  | .str i, .str j => if i.length + j.length ≤ sizeLine then some (.str (i ++ j)) else none
  | _, _ => none
def fAddT : D → D → Option D
  | .tup i, .tup j => if i.length + j.length ≤ sizeLine then some (.tup (i ++ j)) else none
  | _, _ => none
def fAddL : D → D → Option D
  | .lst i, .lst j => if i.length + j.length ≤ sizeLine then some (.lst (i ++ j)) else none
  | _, _ => none
def fAdd : D → D → Option D
  | .int i, .int j => some (.int (i + j))
  | .str i, .str j => if i.length + j.length ≤ sizeLine then some (.str (i ++ j)) else none
  | .tup i, .tup j => if i.length + j.length ≤ sizeLine then some (.tup (i ++ j)) else none
  | .lst i, .lst j => if i.length + j.length ≤ sizeLine then some (.lst (i ++ j)) else none
  | _, _ => none
def fSub : D → D → Option D
  | .int i, .int j => some (.int (i - j))
  | _, _ => none
theorem small64' {j : Int} (h : -1000000000000 ≤ j ∧ j ≤ 1000000000000) : -(2 ^ 64) < j ∧ j < 2 ^ 64 := ⟨Int.lt_of_lt_of_le (by decide) h.1, Int.lt_of_le_of_lt h.2 (by decide)⟩
theorem small63' {j : Int} (h : -1000000000000 ≤ j ∧ j ≤ 1000000000000) : -(2 ^ 63) ≤ j ∧ j < 2 ^ 63 := ⟨Int.le_trans (by decide) h.1, Int.lt_of_le_of_lt h.2 (by decide)⟩
def fMulI : D → D → Option D
  | .int i, .int j => if -1000000000000 ≤ j ∧ j ≤ 1000000000000 then some (.int (i * j)) else none
  | _, _ => none
def fMulL : D → D → Option D
  | .lst xs, .int k => if (-1000000000000 ≤ k ∧ k ≤ 1000000000000) ∧ xs.length * k.toNat ≤ sizeLine then some (.lst (List.replicate k.toNat xs).flatten) else none
  | _, _ => none
def fMul : D → D → Option D
  | .int i, .int j => if -1000000000000 ≤ j ∧ j ≤ 1000000000000 then some (.int (i * j)) else none
  | .lst xs, .int k => if (-1000000000000 ≤ k ∧ k ≤ 1000000000000) ∧ xs.length * k.toNat ≤ sizeLine then some (.lst (List.replicate k.toNat xs).flatten) else none
  | _, _ => none
def fMod : D → D → Option D
  | .int i, .int j => if 0 < j then some (.int (i % j)) else none
  | _, _ => none
def fFdiv : D → D → Option D
  | .int i, .int j => if 0 < j ∧ j < 1073741824 then some (.int (i / j)) else none
  | _, _ => none
section
variable {K : PySem.W.Frag}
theorem o_addI : OpD K (rI0 fun i j => .int (i + j)) fAddI := by
  intro o G H d1 d2 v1 v2 d Q s r1 r2 e q
  unfold fAddI at e
  split at e
  case h_2 => cases e
  case h_1 i j =>
    cases e
    unfold Rep at r1 r2
    subst r1 r2
    exact ⟨i, j, rfl, rfl, q _ H G (Same.refl _) (Gr.refl s) (by unfold Rep; rfl)⟩
theorem o_sub : OpD K (rI0 fun i j => .int (i - j)) fSub := by
  intro o G H d1 d2 v1 v2 d Q s r1 r2 e q
  unfold fSub at e
  split at e
  case h_2 => cases e
  case h_1 i j =>
    cases e
    unfold Rep at r1 r2
    subst r1 r2
    exact ⟨i, j, rfl, rfl, q _ H G (Same.refl _) (Gr.refl s) (by unfold Rep; rfl)⟩
theorem o_mulI : OpD K (rI CMul fun i j => .int (i * j)) fMulI := by
  intro o G H d1 d2 v1 v2 d Q s r1 r2 e q
  unfold fMulI at e
  split at e
  case h_2 => cases e
  case h_1 i j =>
    split at e
    case isFalse => cases e
    case isTrue hc =>
      cases e
      unfold Rep at r1 r2
      subst r1 r2
      exact ⟨i, j, rfl, rfl, .inr (small64' hc), q _ H G (Same.refl _) (Gr.refl s) (by unfold Rep; rfl)⟩
theorem o_mod : OpD K (rI (fun _ j => 0 < j) fun i j => .int (i % j)) fMod := by
  intro o G H d1 d2 v1 v2 d Q s r1 r2 e q
  unfold fMod at e
  split at e
  case h_2 => cases e
  case h_1 i j =>
    split at e
    case isFalse => cases e
    case isTrue hc =>
      cases e
      unfold Rep at r1 r2
      subst r1 r2
      exact ⟨i, j, rfl, rfl, hc, q _ H G (Same.refl _) (Gr.refl s) (by unfold Rep; rfl)⟩
theorem o_fdiv : OpD K (rI CDiv fun i j => .int (i / j)) fFdiv := by
  intro o G H d1 d2 v1 v2 d Q s r1 r2 e q
  unfold fFdiv at e
  split at e
  case h_2 => cases e
  case h_1 i j =>
    split at e
    case isFalse => cases e
    case isTrue hc =>
      cases e
      unfold Rep at r1 r2
      subst r1 r2
      exact ⟨i, j, rfl, rfl, hc, q _ H G (Same.refl _) (Gr.refl s) (by unfold Rep; rfl)⟩
theorem o_addS : OpD K (fun x y H Q => ∃ i j, x = .str i ∧ y = .str j ∧ i.length + j.length ≤ sizeLine ∧ Q (.str (i ++ j)) H) fAddS := by
  intro o G H d1 d2 v1 v2 d Q s r1 r2 e q
  unfold fAddS at e
  split at e
  case h_2 => cases e
  case h_1 i j =>
    split at e
    case isFalse => cases e
    case isTrue hc =>
      cases e
      unfold Rep at r1 r2
      subst r1 r2
      exact ⟨i, j, rfl, rfl, hc, q _ H G (Same.refl _) (Gr.refl s) (by unfold Rep; rfl)⟩
theorem gnone_of {G H : Hp} (s : Same G H) {p : Addr} (h : H p = none) : G p = none := L2.Same.free s h
theorem o_addL : OpD K rCat fAddL := by
  intro o G H d1 d2 v1 v2 d Q s r1 r2 e q
  unfold fAddL at e
  split at e
  case h_2 => cases e
  case h_1 xs ys =>
    split at e
    case isFalse => cases e
    case isTrue hc =>
      cases e
      unfold Rep at r1 r2
      obtain ⟨a, us, rfl, a1, a2, a3⟩ := r1
      obtain ⟨b, ws, rfl, b1, b2, b3⟩ := r2
      have hz : us.length + ws.length ≤ sizeLine := by rw [← a3.length, ← b3.length]; exact hc
      exact ⟨a, b, us, ws, rfl, rfl, s _ _ a1, s _ _ b1, hz, fun p hp => q _ _ _ (fun c u e => by rw [upd_ne (ne_of_none e hp)]; exact e) (Gr.new s hp)
        (ObjD.rep (d := .lst (xs ++ ys)) ⟨us ++ ws, rfl, by rw [List.length_append]; exact hz, a3.append b3⟩ (gnone_of s hp))⟩
theorem Reps.nil_iff {o : Option Addr} {G : Hp} {ds : List D} {vs : List V} (h : Reps K o G ds vs) : ds = [] ↔ vs = [] := by
  have hl := h.length
  constructor
  · intro e; subst e; exact List.length_eq_zero_iff.mp hl.symm
  · intro e; subst e; exact List.length_eq_zero_iff.mp hl
theorem o_addT : OpD K (rCatA K) fAddT := by
  intro o G H d1 d2 v1 v2 d Q s r1 r2 e q
  unfold fAddT at e
  split at e
  case h_2 => cases e
  case h_1 xs ys =>
    split at e
    case isFalse => cases e
    case isTrue hc =>
      cases e
      unfold Rep at r1 r2
      obtain ⟨a, us, rfl, a1, a2, a3⟩ := r1
      obtain ⟨b, ws, rfl, b1, b2, b3⟩ := r2
      have hz : us.length + ws.length ≤ sizeLine := by rw [← a3.length, ← b3.length]; exact hc
      refine ⟨a, b, us, ws, rfl, rfl, Same.seqT s a1, Same.seqT s b1, hz, fun h0 => ?_, fun _ h0 => ?_, fun _ _ p hp => ?_⟩
      · have e0 : xs = [] := a3.nil_iff.mpr h0
        subst e0
        exact q _ H G (Same.refl _) (Gr.refl s) (by unfold Rep; exact ⟨b, ws, rfl, b1, b2, b3⟩)
      · have e0 : ys = [] := b3.nil_iff.mpr h0
        subst e0
        exact q _ H G (Same.refl _) (Gr.refl s) (by unfold Rep; rw [List.append_nil]; exact ⟨a, us, rfl, a1, a2, a3⟩)
      · exact q _ _ _ (fun c u e => by rw [upd_ne (ne_of_none e hp)]; exact e) (Gr.new s hp) (ObjD.rep (d := .tup (xs ++ ys)) ⟨us ++ ws, rfl, by rw [List.length_append]; exact hz, a3.append b3⟩ (gnone_of s hp))
theorem o_mulL : OpD K rRep fMulL := by
  intro o G H d1 d2 v1 v2 d Q s r1 r2 e q
  unfold fMulL at e
  split at e
  case h_2 => cases e
  case h_1 xs k =>
    split at e
    case isFalse => cases e
    case isTrue hc =>
      cases e
      unfold Rep at r1 r2
      obtain ⟨a, us, rfl, a1, a2, a3⟩ := r1
      subst r2
      have hz : us.length * k.toNat ≤ sizeLine := by rw [← a3.length]; exact hc.2
      have rr : ∀ n : Nat, Reps K o G (List.replicate n xs).flatten (List.replicate n us).flatten := by
        intro n
        induction n with
        | zero => exact Reps.nil
        | succ n ih => rw [List.replicate_succ, List.replicate_succ, List.flatten_cons, List.flatten_cons]; exact a3.append ih
      have hlen : ((List.replicate k.toNat us).flatten).length ≤ sizeLine := by
        rw [List.length_flatten, List.map_replicate, List.sum_replicate_nat, Nat.mul_comm]; exact hz
      exact ⟨a, k, us, rfl, rfl, s _ _ a1, (small63' hc.1).1, (small63' hc.1).2, hz, fun p hp => q _ _ _ (fun c u e => by rw [upd_ne (ne_of_none e hp)]; exact e) (Gr.new s hp)
        (ObjD.rep (d := .lst (List.replicate k.toNat xs).flatten) ⟨_, rfl, hlen, rr _⟩ (gnone_of s hp))⟩
end
section
variable {X : Cx}
def rAdd4 (K : PySem.W.Frag) : R2 := fun x y H Q => rI0 (fun i j => .int (i + j)) x y H Q ∨ ((∃ i j, x = .str i ∧ y = .str j ∧ i.length + j.length ≤ sizeLine ∧ Q (.str (i ++ j)) H) ∨ (rCatA K x y H Q ∨ rCat x y H Q))
theorem op_add4 : OpR X (binaryOp .Add) (rAdd4 X.K) := op_add.or (op_add_str.or (op_catA.or op_cat))
theorem o_add {K : PySem.W.Frag} : OpD K (rAdd4 K) fAdd := by
  refine OpD.or o_addI (OpD.or (h := fun x y => match x, y with | .int _, _ => none | _, _ => fAdd x y) o_addS (OpD.or (h := fun x y => match x, y with | .int _, _ => none | .str _, _ => none | _, _ => fAdd x y) o_addT o_addL ?_) ?_) ?_
  all_goals (intro x y d e; cases x <;> cases y <;> simp [fAdd, fAddI, fAddS, fAddT, fAddL] at e ⊢ <;> first | exact e | exact .inl e | exact .inr e | skip)
def rMul2 : R2 := fun x y H Q => rI CMul (fun i j => .int (i * j)) x y H Q ∨ rRep x y H Q
theorem op_mul2 : OpR X (binaryOp .Mult) rMul2 := op_mul.or op_rep
theorem o_mul {K : PySem.W.Frag} : OpD K rMul2 fMul := by
  refine OpD.or o_mulI o_mulL ?_
  intro x y d e; cases x <;> cases y <;> simp [fMul, fMulI, fMulL] at e ⊢ <;> exact e
end
/-! ### order of numbers -/
def fCmp (p : Int → Int → Bool) : D → D → Option D
  | .int i, .int j => some (.bl (p i j))
  | _, _ => none
theorem c_int {K : PySem.W.Frag} (p : Int → Int → Bool) : CmpD K (rI0 fun i j => .bl (p i j)) (fCmp p) := by
  intro o G H d1 d2 v1 v2 d Q s r1 r2 e q
  unfold fCmp at e
  split at e
  case h_2 => cases e
  case h_1 i j =>
    cases e
    unfold Rep at r1 r2
    subst r1 r2
    exact ⟨i, j, rfl, rfl, q _ (by unfold Rep; rfl)⟩
abbrev fLt := fCmp fun i j => decide (i < j)
abbrev fLe := fCmp fun i j => decide (i ≤ j)
abbrev fGt := fCmp fun i j => decide (j < i)
abbrev fGe := fCmp fun i j => decide (j ≤ i)

/-! ### equal things -/
mutual
def toPy : D → PyData
  | .non => .none
  | .bl b => .bool b
  | .int i => .int i
  | .str x => .str x
  | .tup xs => .tuple (toPys xs)
  | .lst xs => .list (toPys xs)
  | _ => .none
def toPys : List D → List PyData
  | [] => []
  | d :: ds => toPy d :: toPys ds
end
/-- plain things of a depth -/
def fit : Nat → D → Bool
  | _, .non => true
  | _, .bl _ => true
  | _, .int _ => true
  | _, .str x => PyData.strOk x
  | n + 1, .tup xs => xs.all (fit n)
  | n + 1, .lst xs => xs.all (fit n)
  | _, _ => false
def eqD (d e : D) : Bool := PyData.eqv (toPy d) (toPy e)
theorem toPys_map : ∀ xs : List D, toPys xs = xs.map toPy
  | [] => by simp [toPys]
  | x :: xs => by simp [toPys, toPys_map xs]
theorem fit_ok : ∀ (n : Nat) (d : D), fit n d = true → (toPy d).canLay0 = true ∧ (toPy d).depth ≤ n := by
  intro n
  induction n with
  | zero =>
    intro d h
    cases d <;> simp [fit] at h <;> simp [toPy, PyData.canLay0, PyData.depth] <;> exact h
  | succ n ih =>
    intro d h
    have all : ∀ xs : List D, xs.all (fit n) = true → PyData.canLayAll0 (toPys xs) = true ∧ PyData.depthAll (toPys xs) ≤ n := by
      intro xs
      induction xs with
      | nil => intro _; simp [toPys, PyData.canLayAll0, PyData.depthAll]
      | cons x xs ihx =>
        intro hx
        have hx' : fit n x = true ∧ xs.all (fit n) = true := by simpa using hx
        obtain ⟨h1, h2⟩ := ih x hx'.1
        obtain ⟨h3, h4⟩ := ihx hx'.2
        simp only [toPys, PyData.canLayAll0, PyData.depthAll, h1, h3, Bool.and_self, true_and]
        omega
    cases d with
    | tup xs => obtain ⟨h1, h2⟩ := all xs h; simp only [toPy, PyData.canLay0, PyData.depth]; exact ⟨h1, by omega⟩
    | lst xs => obtain ⟨h1, h2⟩ := all xs h; simp only [toPy, PyData.canLay0, PyData.depth]; exact ⟨h1, by omega⟩
    | str x => simp only [fit] at h; simp only [toPy, PyData.canLay0, PyData.depth]; exact ⟨h, by omega⟩
    | non => simp [toPy, PyData.canLay0, PyData.depth]
    | bl _ => simp [toPy, PyData.canLay0, PyData.depth]
    | int _ => simp [toPy, PyData.canLay0, PyData.depth]
    | _ => cases h
theorem fit_shaped {n : Nat} {d : D} (hn : n ≤ 64) (h : fit n d = true) : SeqAt.shaped (toPy d) = true := by
  obtain ⟨h1, h2⟩ := fit_ok n d h
  unfold SeqAt.shaped
  rw [h1, Bool.true_and]
  exact decide_eq_true (by omega)
theorem dp_of {K : PySem.W.Frag} {o : Option Addr} {G H : Hp} (s : Same G H) : ∀ (n : Nat) (d : D) (v : V), fit n d = true → Rep K o G d v → Dp K H v (toPy d) := by
  intro n
  induction n with
  | zero =>
    intro d v h r
    cases d <;> simp [fit] at h <;> unfold Rep at r <;> subst r <;> simp only [toPy] <;> constructor
  | succ n ih =>
    intro d v h r
    have all : ∀ (xs : List D) (vs : List V), xs.all (fit n) = true → Reps K o G xs vs → DpAll K H vs (toPys xs) := by
      intro xs
      induction xs with
      | nil => intro vs _ r; unfold Reps at r; subst r; simp only [toPys]; exact .nil
      | cons x xs ihx =>
        intro vs hx r
        unfold Reps at r
        obtain ⟨v, t, rfl, r1, r2⟩ := r
        have hx' : fit n x = true ∧ xs.all (fit n) = true := by simpa using hx
        simp only [toPys]
        exact .cons (ih x v hx'.1 r1) (ihx t hx'.2 r2)
    cases d with
    | tup xs =>
      unfold Rep at r
      obtain ⟨a, vs, rfl, a1, a2, a3⟩ := r
      simp only [toPy]
      exact .tup (Same.seqT s a1) (all xs vs h a3)
    | lst xs =>
      unfold Rep at r
      obtain ⟨a, vs, rfl, a1, a2, a3⟩ := r
      simp only [toPy]
      exact .lst (.of (s _ _ a1)) (all xs vs h a3)
    | str x => unfold Rep at r; subst r; simp only [toPy]; exact .str x
    | non => unfold Rep at r; subst r; simp only [toPy]; exact .non
    | bl b => unfold Rep at r; subst r; simp only [toPy]; exact .bl b
    | int i => unfold Rep at r; subst r; simp only [toPy]; exact .int i
    | _ => cases h
def fEq (d e : D) : Option D := if fit 8 d = true ∧ fit 8 e = true then some (.bl (eqD d e)) else none
def fNe (d e : D) : Option D := if fit 8 d = true ∧ fit 8 e = true then some (.bl (!eqD d e)) else none
theorem c_eq {K : PySem.W.Frag} : CmpD K (rEqD K) fEq := by
  intro o G H d1 d2 v1 v2 d Q s r1 r2 e q
  unfold fEq at e
  split at e
  case isFalse => cases e
  case isTrue h =>
    cases e
    exact ⟨toPy d1, toPy d2, dp_of s 8 _ _ h.1 r1, dp_of s 8 _ _ h.2 r2, fit_shaped (by decide) h.1, fit_shaped (by decide) h.2, q _ (by unfold Rep; rfl)⟩
theorem c_ne {K : PySem.W.Frag} : CmpD K (rNeD K) fNe := by
  intro o G H d1 d2 v1 v2 d Q s r1 r2 e q
  unfold fNe at e
  split at e
  case isFalse => cases e
  case isTrue h =>
    cases e
    exact ⟨toPy d1, toPy d2, dp_of s 8 _ _ h.1 r1, dp_of s 8 _ _ h.2 r2, fit_shaped (by decide) h.1, fit_shaped (by decide) h.2, q _ (by unfold Rep; rfl)⟩
/-! ### in -/
def flatD : D → Bool
  | .non => true
  | .bl _ => true
  | .int _ => true
  | .str _ => true
  | _ => false
def eqF : D → D → Bool
  | .non, .non => true
  | .bl a, .bl b => a == b
  | .bl a, .int b => (if a then 1 else 0) == b
  | .int a, .bl b => a == (if b then 1 else 0)
  | .int a, .int b => a == b
  | .str a, .str b => a == b
  | _, _ => false
theorem flat_v {K : PySem.W.Frag} {o : Option Addr} {G : Hp} {d : D} {v : V} (h : flatD d = true) (r : Rep K o G d v) : flatV v = true := by
  cases d <;> first | (unfold Rep at r; subst r; rfl) | cases h
theorem eqF_v {K : PySem.W.Frag} {o : Option Addr} {G : Hp} {d e : D} {v u : V} (h : flatD d = true) (h' : flatD e = true) (r : Rep K o G d v) (r' : Rep K o G e u) : eqV v u = eqF d e := by
  cases d <;> first | (cases h; done) | (cases e <;> first | (unfold Rep at r r'; subst r r'; rfl) | (cases h'; done))
theorem flats_v {K : PySem.W.Frag} {o : Option Addr} {G : Hp} : ∀ {ds : List D} {vs : List V}, ds.all flatD = true → Reps K o G ds vs → vs.all flatV = true
  | [], _, _, r => by unfold Reps at r; subst r; rfl
  | d :: ds, vs, h, r => by
    unfold Reps at r
    obtain ⟨v, t, rfl, r1, r2⟩ := r
    have h' : flatD d = true ∧ ds.all flatD = true := by simpa using h
    simp only [List.all_cons, flat_v h'.1 r1, flats_v h'.2 r2, Bool.and_self]
theorem anyF_v {K : PySem.W.Frag} {o : Option Addr} {G : Hp} {x : D} {u : V} (hx : flatD x = true) (rx : Rep K o G x u) : ∀ {ds : List D} {vs : List V}, ds.all flatD = true → Reps K o G ds vs → inV u vs = ds.any fun y => eqF y x
  | [], _, _, r => by unfold Reps at r; subst r; rfl
  | d :: ds, vs, h, r => by
    unfold Reps at r
    obtain ⟨v, t, rfl, r1, r2⟩ := r
    have h' : flatD d = true ∧ ds.all flatD = true := by simpa using h
    show (eqV v u || inV u t) = _
    rw [eqF_v h'.1 hx r1 rx, anyF_v hx rx h'.2 r2]
    rfl
def seqOf : D → Option (List D)
  | .lst xs => some xs
  | .tup xs => some xs
  | _ => none
def fInF (neg : Bool) (x y : D) : Option D := match seqOf y with
  | some ds => if flatD x = true ∧ ds.all flatD = true then some (.bl (if neg = true then !ds.any (fun y => eqF y x) else ds.any fun y => eqF y x)) else none
  | none => none
theorem c_inF {K : PySem.W.Frag} {neg : Bool} : CmpD K (rIn K neg) (fInF neg) := by
  intro o G H d1 d2 v1 v2 d Q s r1 r2 e q
  unfold fInF at e
  have main : ∀ (ds : List D) (vs : List V) (p : Addr), (SqL K H p vs ∨ SqT K H p vs) → v2 = .ref p → Reps K o G ds vs → (if flatD d1 = true ∧ ds.all flatD = true then some (D.bl (if neg = true then !ds.any (fun y => eqF y d1) else ds.any fun y => eqF y d1)) else none) = some d → rIn K neg v1 v2 H Q := by
    intro ds vs p hs hp rr e
    split at e
    case isFalse => cases e
    case isTrue h =>
      cases e
      refine ⟨p, vs, hp, hs, flat_v h.1 r1, flats_v h.2 rr, ?_⟩
      rw [anyF_v h.1 r1 h.2 rr]
      exact q _ (by unfold Rep; cases neg <;> rfl)
  cases d2 with
  | lst ds =>
    unfold Rep at r2
    obtain ⟨a, vs, rfl, a1, a2, a3⟩ := r2
    exact main ds vs a (.inl (.of (s _ _ a1))) rfl a3 e
  | tup ds =>
    unfold Rep at r2
    obtain ⟨a, vs, rfl, a1, a2, a3⟩ := r2
    exact main ds vs a (.inr (Same.seqT s a1)) rfl a3 e
  | _ => cases e
def fInD (neg : Bool) : D → D → Option D
  | x, .lst ds => if fit 8 x = true ∧ fit 8 (.lst ds) = true then some (.bl (if neg = true then !ds.any (fun y => eqD y x) else ds.any fun y => eqD y x)) else none
  | _, _ => none
theorem any_py {x : D} : ∀ ds : List D, (toPys ds).any (fun z => PyData.eqv z (toPy x)) = ds.any fun y => eqD y x
  | [] => by simp [toPys]
  | d :: ds => by simp only [toPys, List.any_cons, any_py ds]; rfl
theorem c_inD {K : PySem.W.Frag} : CmpD K (rInD K) (fInD false) := by
  intro o G H d1 d2 v1 v2 d Q s r1 r2 e q
  unfold fInD at e
  split at e
  case h_2 => cases e
  case h_1 x ds =>
    split at e
    case isFalse => cases e
    case isTrue h =>
      cases e
      refine ⟨toPy d1, toPys ds, dp_of s 8 _ _ h.1 r1, ?_, fit_shaped (by decide) h.1, ?_, ?_⟩
      · have := dp_of s 8 _ _ h.2 r2; simpa only [toPy] using this
      · have := fit_shaped (d := .lst ds) (by decide) h.2; simpa only [toPy] using this
      · rw [any_py]; exact q _ (by unfold Rep; rfl)
theorem c_notInD {K : PySem.W.Frag} : CmpD K (rNotInD K) (fInD true) := by
  intro o G H d1 d2 v1 v2 d Q s r1 r2 e q
  unfold fInD at e
  split at e
  case h_2 => cases e
  case h_1 x ds =>
    split at e
    case isFalse => cases e
    case isTrue h =>
      cases e
      refine ⟨toPy d1, toPys ds, dp_of s 8 _ _ h.1 r1, ?_, fit_shaped (by decide) h.1, ?_, ?_⟩
      · have := dp_of s 8 _ _ h.2 r2; simpa only [toPy] using this
      · have := fit_shaped (d := .lst ds) (by decide) h.2; simpa only [toPy] using this
      · rw [any_py]; exact q _ (by unfold Rep; rfl)
def fIn (neg : Bool) (x y : D) : Option D := match fInF neg x y with
  | some d => some d
  | none => fInD neg x y
section
variable {X : Cx}
theorem op_in2 (hu : X.A.units + 65 < cLine) : OpR X (compareOp .In) (fun x y H Q => rIn X.K false x y H Q ∨ rInD X.K x y H Q) := op_in_seq.or (op_inD hu)
theorem op_notIn2 (hu : X.A.units + 65 < cLine) : OpR X (compareOp .NotIn) (fun x y H Q => rIn X.K true x y H Q ∨ rNotInD X.K x y H Q) := op_notIn_seq.or (op_notInD hu)
theorem c_in {K : PySem.W.Frag} : CmpD K (fun x y H Q => rIn K false x y H Q ∨ rInD K x y H Q) (fIn false) := CmpD.or c_inF c_inD fun x y d e => by
  unfold fIn at e
  cases q : fInF false x y with
  | some z => rw [q] at e; exact .inl e
  | none => rw [q] at e; exact .inr e
theorem c_notIn {K : PySem.W.Frag} : CmpD K (fun x y H Q => rIn K true x y H Q ∨ rNotInD K x y H Q) (fIn true) := CmpD.or c_inF c_notInD fun x y d e => by
  unfold fIn at e
  cases q : fInF true x y with
  | some z => rw [q] at e; exact .inl e
  | none => rw [q] at e; exact .inr e
end
/-! ### items -/
def dLook : List Int → List D → Int → Option D
  | k :: ks, d :: ds, j => if k = j then some d else dLook ks ds j
  | _, _, _ => none
def fIx : D → D → Option D
  | .lst xs, .int i => atI xs i
  | .tup xs, .int i => atI xs i
  | .str z, .int i => if z.length ≤ sizeLine then (atI z.cps.toList i).map fun c => .str ⟨#[c]⟩ else none
  | .scr ns, .int i => (atI ns i).map .int
  | _, _ => none
theorem Reps.atI {K : PySem.W.Frag} {o : Option Addr} {G : Hp} {ds : List D} {vs : List V} {i : Int} {d : D} (r : Reps K o G ds vs) (h : atI ds i = some d) : ∃ v, atI vs i = some v ∧ Rep K o G d v := by
  unfold L2.atI at h ⊢
  rw [← r.length]
  cases e : ixN ds.length i with
  | none => rw [e] at h; cases h
  | some j =>
    rw [e] at h
    exact r.get h
theorem atI_map {α β : Type} {f : α → β} {xs : List α} {i : Int} {y : α} (h : atI xs i = some y) : atI (xs.map f) i = some (f y) := by
  unfold L2.atI at h ⊢
  rw [List.length_map]
  cases e : ixN xs.length i with
  | none => rw [e] at h; cases h
  | some j =>
    rw [e] at h
    simp only [Option.bind_some] at h ⊢
    rw [List.getElem?_map, h]
    rfl
theorem scr_seq {K : PySem.W.Frag} {o : Option Addr} {G H : Hp} {ns : List Int} {v : V} (s : Same G H) (r : Rep K o G (.scr ns) v) : ∃ a, v = .ref a ∧ SqL K H a (ns.map V.int) ∧ ns.length ≤ sizeLine := by
  unfold Rep at r
  obtain ⟨a, rfl, h, hl⟩ := r
  refine ⟨a, rfl, ?_, hl⟩
  rcases h with ⟨ob, h⟩ | (h | ⟨ob, h⟩) | h
  · exact .inl (.inr ⟨ob, s _ _ h⟩)
  · cases h
  · cases h
  · exact .inr h
theorem o_ix {K : PySem.W.Frag} : OpD K (rIx K) fIx := by
  intro o G H d1 d2 v1 v2 d Q s r1 r2 e q
  unfold fIx at e
  split at e
  case h_5 => cases e
  case h_1 xs i =>
    unfold Rep at r1 r2
    obtain ⟨a, vs, rfl, a1, a2, a3⟩ := r1
    subst r2
    obtain ⟨v, h1, h2⟩ := a3.atI e
    exact .inl ⟨a, vs, i, v, rfl, rfl, .of (s _ _ a1), h1, q v H G (Same.refl _) (Gr.refl s) h2⟩
  case h_2 xs i =>
    unfold Rep at r1 r2
    obtain ⟨a, vs, rfl, a1, a2, a3⟩ := r1
    subst r2
    obtain ⟨v, h1, h2⟩ := a3.atI e
    exact .inr (.inl ⟨a, vs, i, v, rfl, rfl, Same.seqT s a1, h1, q v H G (Same.refl _) (Gr.refl s) h2⟩)
  case h_3 z i =>
    unfold Rep at r1 r2
    subst r1 r2
    split at e
    case isFalse => cases e
    case isTrue hz =>
      cases h : L2.atI z.cps.toList i with
      | none => rw [h] at e; cases e
      | some c =>
        rw [h] at e
        cases e
        exact .inr (.inr ⟨z, i, c, rfl, rfl, hz, h, q _ H G (Same.refl _) (Gr.refl s) (by unfold Rep; rfl)⟩)
  case h_4 ns i =>
    obtain ⟨a, rfl, h1, h2⟩ := scr_seq s r1
    unfold Rep at r2
    subst r2
    cases h : L2.atI ns i with
    | none => rw [h] at e; cases e
    | some c =>
      rw [h] at e
      cases e
      exact .inl ⟨a, _, i, .int c, rfl, rfl, h1, atI_map h, q _ H G (Same.refl _) (Gr.refl s) (by unfold Rep; rfl)⟩
/-! ### built-ins -/
def fLen : List D → Option D
  | [.lst xs] => some (.int xs.length)
  | [.tup xs] => some (.int xs.length)
  | [.scr ns] => some (.int ns.length)
  | [.str x] => if x.length ≤ sizeLine then some (.int x.length) else none
  | _ => none
theorem reps1 {K : PySem.W.Frag} {o : Option Addr} {G : Hp} {d : D} {vs : List V} (r : Reps K o G [d] vs) : ∃ v, vs = [v] ∧ Rep K o G d v := by
  unfold Reps at r
  obtain ⟨v, t, rfl, r1, r2⟩ := r
  unfold Reps at r2
  subst r2
  exact ⟨v, rfl, r1⟩
theorem reps2 {K : PySem.W.Frag} {o : Option Addr} {G : Hp} {d e : D} {vs : List V} (r : Reps K o G [d, e] vs) : ∃ v u, vs = [v, u] ∧ Rep K o G d v ∧ Rep K o G e u := by
  unfold Reps at r
  obtain ⟨v, t, rfl, r1, r2⟩ := r
  obtain ⟨u, rfl, r3⟩ := reps1 r2
  exact ⟨v, u, rfl, r1, r3⟩
theorem a_len {K : PySem.W.Frag} : ArD K (fun xs H Q => ∃ x n, xs = [x] ∧ LenV K x H n ∧ Q (.int n) H) fLen := by
  intro o G H ds vs d Q s r e q
  unfold fLen at e
  split at e
  case h_5 => cases e
  case h_1 xs =>
    cases e
    obtain ⟨v, rfl, r1⟩ := reps1 r
    replace r := r1
    clear r1
    unfold Rep at r
    obtain ⟨a, us, rfl, a1, a2, a3⟩ := r
    exact ⟨_, xs.length, rfl, .inl ⟨us, .of (s _ _ a1), a3.length⟩, q _ H G (Same.refl _) (Gr.refl s) (by unfold Rep; rfl)⟩
  case h_2 xs =>
    cases e
    obtain ⟨v, rfl, r1⟩ := reps1 r
    replace r := r1
    clear r1
    unfold Rep at r
    obtain ⟨a, us, rfl, a1, a2, a3⟩ := r
    exact ⟨_, xs.length, rfl, .inr ⟨us, Same.seqT s a1, a3.length⟩, q _ H G (Same.refl _) (Gr.refl s) (by unfold Rep; rfl)⟩
  case h_3 ns =>
    cases e
    obtain ⟨v, rfl, r1⟩ := reps1 r
    replace r := r1
    clear r1
    obtain ⟨a, rfl, h1, h2⟩ := scr_seq s r
    exact ⟨_, ns.length, rfl, .inl ⟨_, h1, by simp⟩, q _ H G (Same.refl _) (Gr.refl s) (by unfold Rep; rfl)⟩
  case h_4 x =>
    split at e
    case isFalse => cases e
    case isTrue hz =>
      cases e
      obtain ⟨v, rfl, r1⟩ := reps1 r
      unfold Rep at r1
      subst r1
      exact ⟨_, x.length, rfl, ⟨hz, rfl⟩, q _ H G (Same.refl _) (Gr.refl s) (by unfold Rep; rfl)⟩
/-- list(xs), a new list -/
def fList : List D → Option D
  | [.lst xs] => some (.lst xs)
  | [.tup xs] => some (.lst xs)
  | _ => none
theorem a_list {K : PySem.W.Frag} : ArN K (fun xs H Q => ∃ p ys, xs = [.ref p] ∧ (SqL K H p ys ∨ SqT K H p ys) ∧ ∀ l, H l = none → Q (.ref l) (upd H l (.lst ys))) fList := by
  intro o G H ds vs d Q s r e
  unfold fList at e
  split at e
  case h_3 => cases e
  case h_1 xs =>
    cases e
    obtain ⟨v, rfl, r1⟩ := reps1 r
    replace r := r1
    clear r1
    unfold Rep at r
    obtain ⟨a, us, rfl, a1, a2, a3⟩ := r
    exact ⟨rfl, fun k => ⟨a, us, rfl, .inl (.of (s _ _ a1)), fun p hp => k p H _ (Same.refl _) hp ⟨us, rfl, a2, a3⟩⟩⟩
  case h_2 xs =>
    cases e
    obtain ⟨v, rfl, r1⟩ := reps1 r
    replace r := r1
    clear r1
    unfold Rep at r
    obtain ⟨a, us, rfl, a1, a2, a3⟩ := r
    exact ⟨rfl, fun k => ⟨a, us, rfl, .inr (Same.seqT s a1), fun p hp => k p H _ (Same.refl _) hp ⟨us, rfl, a2, a3⟩⟩⟩
def fTuple : List D → Option D
  | [.lst xs] => some (.tup xs)
  | [.tup xs] => some (.tup xs)
  | _ => none
theorem a_tuple {K : PySem.W.Frag} : ArD K (fun xs H Q => ∃ p ys, xs = [.ref p] ∧ ((SqL K H p ys ∧ ∀ l, H l = none → Q (.ref l) (upd H l (.tup ys))) ∨ (SqT K H p ys ∧ Q (.ref p) H))) fTuple := by
  intro o G H ds vs d Q s r e q
  unfold fTuple at e
  split at e
  case h_3 => cases e
  case h_1 xs =>
    cases e
    obtain ⟨v, rfl, r1⟩ := reps1 r
    replace r := r1
    clear r1
    unfold Rep at r
    obtain ⟨a, us, rfl, a1, a2, a3⟩ := r
    exact ⟨a, us, rfl, .inl ⟨.of (s _ _ a1), fun p hp => q _ _ _ (fun c u e => by rw [upd_ne (ne_of_none e hp)]; exact e) (Gr.new s hp) (ObjD.rep (d := .tup xs) ⟨us, rfl, a2, a3⟩ (gnone_of s hp))⟩⟩
  case h_2 xs =>
    cases e
    obtain ⟨v, rfl, r1⟩ := reps1 r
    replace r := r1
    clear r1
    have r' := r
    unfold Rep at r
    obtain ⟨a, us, rfl, a1, a2, a3⟩ := r
    exact ⟨a, us, rfl, .inr ⟨Same.seqT s a1, q _ H G (Same.refl _) (Gr.refl s) r'⟩⟩
def fMin2 : List D → Option D
  | [.int i, .int j] => some (.int (if j < i then j else i))
  | _ => none
def fMax2 : List D → Option D
  | [.int i, .int j] => some (.int (if j > i then j else i))
  | _ => none
theorem a_min2 {K : PySem.W.Frag} : ArD K (fun xs H Q => ∃ i j, xs = [.int i, .int j] ∧ Q (.int (if j < i then j else i)) H) fMin2 := by
  intro o G H ds vs d Q s r e q
  unfold fMin2 at e
  split at e
  case h_2 => cases e
  case h_1 i j =>
    cases e
    have ev : vs = [.int i, .int j] := Reps.ints (ns := [i, j]) r
    exact ⟨i, j, ev, q _ H G (Same.refl _) (Gr.refl s) (by unfold Rep; rfl)⟩
theorem a_max2 {K : PySem.W.Frag} : ArD K (fun xs H Q => ∃ i j, xs = [.int i, .int j] ∧ Q (.int (if j > i then j else i)) H) fMax2 := by
  intro o G H ds vs d Q s r e q
  unfold fMax2 at e
  split at e
  case h_2 => cases e
  case h_1 i j =>
    cases e
    have ev : vs = [.int i, .int j] := Reps.ints (ns := [i, j]) r
    exact ⟨i, j, ev, q _ H G (Same.refl _) (Gr.refl s) (by unfold Rep; rfl)⟩
/-! isinstance -/
def tyN : D → Option String
  | .non => some "NoneType"
  | .bl _ => some "bool"
  | .int _ => some "int"
  | .str _ => some "str"
  | .tup _ => some "tuple"
  | .lst _ => some "list"
  | _ => none
def isT (a b : String) : Option Bool :=
  if a ∈ ["NoneType", "bool", "int", "str", "tuple", "list"] ∧ b ∈ ["bool", "int", "str", "tuple", "list"] then some (a == b || (a == "bool" && b == "int")) else none
theorem isT_kit {K : PySem.W.Frag} {a b : String} {r : Bool} (h : isT a b = some r) : PySem.W.kitOne K (.type a) (.type b) = some r := by
  unfold isT at h
  split at h
  case isFalse => cases h
  case isTrue hm =>
    have e : isT a b = some r := by unfold isT; rw [if_pos hm]; exact h
    have key : ∀ a ∈ ["NoneType", "bool", "int", "str", "tuple", "list"], ∀ b ∈ ["bool", "int", "str", "tuple", "list"], kitB a b = some (a == b || (a == "bool" && b == "int")) := by decide +kernel
    exact kit_ty ((key a hm.1 b hm.2).trans h)
theorem ty_rep {K : PySem.W.Frag} {o : Option Addr} {G H : Hp} {d : D} {v : V} {n : String} (s : Same G H) (h : tyN d = some n) (r : Rep K o G d v) : TyX K H v (.type n) := by
  cases d with
  | non => cases h; unfold Rep at r; subst r; exact .base .non
  | bl b => cases h; unfold Rep at r; subst r; exact .base (.bl b)
  | int b => cases h; unfold Rep at r; subst r; exact .base (.int b)
  | str b => cases h; unfold Rep at r; subst r; exact .base (.str b)
  | tup xs =>
    cases h
    unfold Rep at r
    obtain ⟨a, vs, rfl, a1, _⟩ := r
    rcases a1 with (a1 | ⟨ob, a1⟩) | ⟨ob, its, n, a1, c, _⟩
    · exact .base (.tup (s _ _ a1))
    · exact .fTuple (s _ _ a1)
    · exact .kTuple a1 c
  | lst xs =>
    cases h
    unfold Rep at r
    obtain ⟨a, vs, rfl, a1, _⟩ := r
    exact .base (.lst (s _ _ a1))
  | _ => cases h
def fIsi : List D → Option D
  | [d, .raw (.ty b)] => (tyN d).bind fun a => (isT a b).map .bl
  | _ => none
theorem a_isi {K : PySem.W.Frag} : ArD K (rIsi K) fIsi := by
  intro o G H ds vs d Q s r e q
  unfold fIsi at e
  split at e
  case h_2 => cases e
  case h_1 d b =>
    obtain ⟨v, u, rfl, r1, r2⟩ := reps2 r
    unfold Rep at r2
    subst r2
    cases h1 : tyN d with
    | none => rw [h1] at e; cases e
    | some a =>
      rw [h1] at e
      cases h2 : isT a b with
      | none => simp [h2] at e
      | some p =>
        simp only [h2, Option.bind_some, Option.map_some, Option.some.injEq] at e
        subst e
        exact ⟨v, .ty b, .type a, .type b, p, rfl, .ty b, ty_rep s h1 r1, isT_kit h2, q _ H G (Same.refl _) (Gr.refl s) (by unfold Rep; rfl)⟩
/-- isinstance(x, (T, U)) -/
def fIsi2 (b c : String) (d : D) : Option D := (tyN d).bind fun a => (isT a b).bind fun p => (isT a c).map fun q => .bl (p || q)
section
variable {X : Cx} {W : WD}
theorem de_isi2 {e : Expr} {g : EM D} {b c : String} (h : PE X e (tCB (rIsiT X.K) (tCons (tD X.K W g) (tCons (tTup (tCons (tC (.ty b)) (tCons (tC (.ty c)) tNil))) tNil)))) : DE X W e (eUn (fIsi2 b c) g) := by
  refine pe_imp h fun σ H Q hq => ?_
  obtain ⟨C, l, rw, G, S, hp⟩ := hq
  refine seqD (P := PEq X.K W C l σ H G Q) S hp (fun _ _ z => z) (fun z => z) fun d rw1 v H1 G1 S1 s1 r1 h1 => ?_
  dsimp only [PEq] at h1
  refine ⟨by show 2 ≤ sizeLine; rw [sizeLine_eq]; decide, fun t ht => ?_⟩
  unfold fIsi2 at h1
  cases e1 : tyN d with
  | none => rw [e1] at h1; exact h1.elim
  | some a =>
    rw [e1] at h1
    simp only [Option.bind_some] at h1
    cases e2 : isT a b with
    | none => rw [e2] at h1; exact h1.elim
    | some p =>
      rw [e2] at h1
      simp only [Option.bind_some] at h1
      cases e3 : isT a c with
      | none => rw [e3] at h1; exact h1.elim
      | some q =>
        rw [e3] at h1
        have S2 := S1.new (o := .tup [.ty b, .ty c]) ht
        have g2 := Gr.new (r := C.r) (o := .tup [.ty b, .ty c]) S1.sub ht
        refine ⟨v, t, [.ty b, .ty c], .type a, [.type b, .type c], p || q, rfl, upd_same, .cons (.ty b) (.cons (.ty c) .nil), ?_, ?_, ?_⟩
        · exact ty_rep S2.sub e1 (r1.mono g2.g)
        · refine kitAny_cons (isT_kit e2) (fun hb => ?_) fun hb => by rw [hb]; rfl
          refine kitAny_cons (isT_kit e3) (fun hc => by rw [hb, hc]; rfl) fun hc => by rw [hc, Bool.or_true]
        · exact h1 (.bl (p || q)) _ _ S2 (s1.trans g2) (by unfold Rep; rfl)
end
/-! sorted(set(t)), t a tuple of numbers -/
def insU (x : Int) : List Int → List Int
  | [] => [x]
  | y :: ys => if x < y then x :: y :: ys else if x = y then y :: ys else y :: insU x ys
def sortU : List Int → List Int
  | [] => []
  | x :: xs => insU x (sortU xs)
theorem mem_insU {x k : Int} : ∀ {ys : List Int}, k ∈ insU x ys ↔ k = x ∨ k ∈ ys
  | [] => by simp [insU]
  | y :: ys => by
    unfold insU
    split
    · simp
    · split
      · rename_i h; subst h; simp
      · simp only [List.mem_cons, mem_insU (ys := ys)]
        constructor
        · rintro (h | h | h)
          · exact .inr (.inl h)
          · exact .inl h
          · exact .inr (.inr h)
        · rintro (h | h | h)
          · exact .inr (.inl h)
          · exact .inl h
          · exact .inr (.inr h)
theorem pw_insU {x : Int} : ∀ {ys : List Int}, ys.Pairwise (· < ·) → (insU x ys).Pairwise (· < ·)
  | [], _ => by simp [insU]
  | y :: ys, h => by
    obtain ⟨h1, h2⟩ := List.pairwise_cons.mp h
    unfold insU
    split
    · rename_i hxy
      refine List.pairwise_cons.mpr ⟨fun z hz => ?_, h⟩
      rcases List.mem_cons.mp hz with rfl | hz
      · exact hxy
      · have := h1 z hz; omega
    · split
      · exact h
      · refine List.pairwise_cons.mpr ⟨fun z hz => ?_, pw_insU h2⟩
        rcases mem_insU.mp hz with rfl | hz
        · omega
        · exact h1 z hz
theorem mem_sortU {k : Int} : ∀ {xs : List Int}, k ∈ sortU xs ↔ k ∈ xs
  | [] => by simp [sortU]
  | x :: xs => by unfold sortU; rw [mem_insU, mem_sortU, List.mem_cons]
theorem pw_sortU : ∀ xs : List Int, (sortU xs).Pairwise (· < ·)
  | [] => by simp [sortU]
  | x :: xs => by unfold sortU; exact pw_insU (pw_sortU xs)
theorem pw_uniq : ∀ {xs ys : List Int}, xs.Pairwise (· < ·) → ys.Pairwise (· < ·) → (∀ k, k ∈ xs ↔ k ∈ ys) → xs = ys
  | [], [], _, _, _ => rfl
  | [], y :: ys, _, _, h => by have := (h y).mpr (by simp); simp at this
  | x :: xs, [], _, _, h => by have := (h x).mp (by simp); simp at this
  | x :: xs, y :: ys, h1, h2, h => by
    obtain ⟨a1, a2⟩ := List.pairwise_cons.mp h1
    obtain ⟨b1, b2⟩ := List.pairwise_cons.mp h2
    have e : x = y := by
      rcases List.mem_cons.mp ((h x).mp (by simp)) with e | e
      · exact e
      · rcases List.mem_cons.mp ((h y).mpr (by simp)) with e' | e'
        · exact e'.symm
        · have := b1 x e; have := a1 y e'; omega
    subst e
    rw [pw_uniq a2 b2 fun k => ⟨fun hk => ?_, fun hk => ?_⟩]
    · rcases List.mem_cons.mp ((h k).mp (List.mem_cons_of_mem _ hk)) with rfl | z
      · have := a1 k hk; omega
      · exact z
    · rcases List.mem_cons.mp ((h k).mpr (List.mem_cons_of_mem _ hk)) with rfl | z
      · have := b1 k hk; omega
      · exact z
def toInts : List D → Option (List Int)
  | [] => some []
  | .int i :: ds => (toInts ds).map (i :: ·)
  | _ => none
theorem toInts_eq : ∀ {ds : List D} {ns : List Int}, toInts ds = some ns → ds = ns.map .int
  | [], ns, h => by simp [toInts] at h; subst h; rfl
  | d :: ds, ns, h => by
    cases d <;> simp [toInts] at h
    case int i =>
      obtain ⟨a, h1, rfl⟩ := h
      rw [toInts_eq h1]; rfl
def sortSet : D → Option D
  | .tup ds => (toInts ds).bind fun (ns : List Int) => if ns.length < 64 then some (.lst ((sortU ns).map D.int)) else none
  | _ => none
def rSetT (K : PySem.W.Frag) (w : World) : List V → Hp → VK → Prop := fun xs H Q => ∃ (p : Addr) (ns : List Int), xs = [.ref p] ∧ SqT K H p (ns.map V.int) ∧ ns.length + 1 < scanBound ∧ ∀ (q : Addr) (c : Nat), H q = none → c ≤ ns.length → Q (.ref q) (upd H q (SetO w q (fun j => decide (j ∈ ns)) c))
section
variable {X : Cx} {W : WD}
theorem cr_setT (hc : X.calm = true) : CallR X (.type "set") (rSetT X.K X.w) := by
  intro pins s σ H xs us Q I r h
  obtain ⟨p, ns, rfl, hq, hb, q⟩ := h
  obtain ⟨u, rfl, ru⟩ := vals1 r
  cases ru
  obtain ⟨its, rv, pt, hz⟩ := I.tuple hq
  refine call_set_tupI ns (I.ok.hd hc) (show s.heap.IsTuple p its.toArray from pt) (Vals.ints rv) hb fun h' tk c R1 hcn k => ?_
  have hf : H s.heap.objs.size = none := I.hok.fresh (Nat.le_refl _)
  exact ⟨.ref s.heap.objs.size, _, I.laid (t' := tk) k (Nat.le_refl _) (setO_new R1), rfl, q _ c hf hcn⟩
theorem do_sortSet {e : Expr} {g : EM D} (h : PE X e (tCB (rSortedSet X.w) (tCons (tCB (rSetT X.K X.w) (tCons (tD X.K W g) tNil)) tNil))) : DO X W e (eUn sortSet g) := by
  refine pe_imp h fun σ H Q hq => ?_
  obtain ⟨C, l, rw, G, S, hp⟩ := hq
  refine seqD (P := POq X.K W C l σ H G Q) S hp (fun _ _ z => z) (fun z => z) fun d rw1 v H1 G1 S1 s1 r1 h1 => ?_
  dsimp only [POq] at h1
  unfold sortSet at h1
  cases d with
  | tup ds =>
    dsimp only at h1
    cases e1 : toInts ds with
    | none => rw [e1] at h1; exact h1.elim
    | some ns =>
      rw [e1] at h1
      simp only [Option.bind_some] at h1
      by_cases hl : ns.length < 64
      case neg => rw [if_neg hl] at h1; exact h1.elim
      rw [if_pos hl] at h1
      have hds := toInts_eq e1
      subst hds
      unfold Rep at r1
      obtain ⟨a, vs, rfl, a1, a2, a3⟩ := r1
      have hv := Reps.ints a3
      subst hv
      refine ⟨a, ns, rfl, Same.seqT S1.sub a1, by unfold scanBound; omega, fun q c hq hc => ?_⟩
      refine ⟨q, _, c, rfl, upd_same, by omega, fun ns' p hs hm hlen hp' => ?_⟩
      have en : ns' = sortU ns := pw_uniq hs (pw_sortU ns) fun k => by rw [hm k, mem_sortU, decide_eq_true_eq]
      subst en
      have S2 := S1.newO (o := SetO X.w q (fun j => decide (j ∈ ns)) c) hq
      have g2 := Gr.newO (r := C.r) (o := SetO X.w q (fun j => decide (j ∈ ns)) c) S1.sub hq
      have hob : ObjD X.K C.r G1 (.lst ((sortU ns).map D.int)) (.lst ((sortU ns).map V.int)) := ⟨_, rfl, by rw [List.length_map, hlen, sizeLine_eq]; omega, Reps.of_ints _⟩
      refine h1 p _ _ (S2.newO hp') ((s1.trans g2).trans (Gr.newO S2.sub hp')) ?_ (S2.ownNew hp' hob rfl)
      cases e : H p with
      | none => rfl
      | some o => obtain ⟨o', z⟩ := (s1.trans g2).t _ _ e; rw [hp'] at z; cases z
  | _ => exact h1.elim
end
end HD
end
section
/-! The data layer: defs by their facts; more operators; a law's own frame. -/
namespace HD
open PySem PySem.Spec L2
open PyProof.Rows hiding St

abbrev CXF : CXT := fun _ _ _ _ _ _ => False
/-- a def of the text that keeps the promise of its reading -/
structure Cal (P : Program) (w : World) (K : PySem.W.Frag) (mg : Str → Option Value) (base : Heap) (x : Str) (k : Nat) (ps : List Str) (own : Bool) (F : FD) : Prop where
  ex : ∃ (a : Addr) (fd : FuncData), FnOk P w K mg base CXF k a fd ps (spD K own XW0 F) ∧ mg x = some (.ref a) ∧ PySem.W.keepIn K (.ref a) = true ∧ Binds K fd ps []
/-- what the head tells of a def -/
def FnF (K : PySem.W.Frag) (mg : Str → Option Value) (x : Str) (st : Stmt) (ps : List Str) : Prop := ∃ (a : Addr) (fd : FuncData), FunD K x x (defArgs st) (defBody st) (defScope st) [] [] a fd ∧ mg x = some (.ref a) ∧ Binds K fd ps []
section
variable {X : Cx} {k j : Nat} {ps : List Str} {F : FD} {x : Str} {p pos : Pos} {e : Expr} {es : List Expr} {g : EM (List D)}
theorem Cal.de (C : Cal X.prog X.w X.K X.mg X.base x k ps false F) (hr : Room k X.A) (hg : Gl X x) (ha : DA X W0 (e :: es) g) (hdb : (x == ("__debug__" : Str)) = false := by decide) (he : starEach (e :: es) X.env = (false, eval e X.env) :: starEach es X.env := by rfl) (hpl : (backTo pos (starEach es X.env)).any (·.1) = false := by rfl) :
    DE X W0 (.Call (.Name x p) (e :: es) [] pos) (eCall F g) := by
  obtain ⟨a, fd, Fo, hm, hk, hb⟩ := C.ex
  exact de_call Fo hr hg hm hk hb ha hdb he hpl
theorem Cal.do (C : Cal X.prog X.w X.K X.mg X.base x k ps true F) (hr : Room k X.A) (hg : Gl X x) (ha : DA X W0 (e :: es) g) (hdb : (x == ("__debug__" : Str)) = false := by decide) (he : starEach (e :: es) X.env = (false, eval e X.env) :: starEach es X.env := by rfl) (hpl : (backTo pos (starEach es X.env)).any (·.1) = false := by rfl) :
    DO X W0 (.Call (.Name x p) (e :: es) [] pos) (eCall F g) := by
  obtain ⟨a, fd, Fo, hm, hk, hb⟩ := C.ex
  exact do_call Fo hr hg hm hk hb ha hdb he hpl
theorem hu65 {A : Around} {k : Nat} (hr : Room k A) : A.units + 65 < cLine := by have := hr.un; omega
end
section
variable {P : Program} {w : World} {K : PySem.W.Frag} {mg : Str → Option Value} {base : Heap}
theorem cal_of {x : Str} {st : Stmt} {N ps : List Str} {k : Nat} {own : Bool} {den : SM} (F : FnF K mg x st ps) (S : FnScope N ps (defScope st))
    (hb : ∀ (f : Addr) (cdv : Value) (A : Around) (outer : List Env) (s : Shared) (H : Hp) (E : XK), Room k (A.deeper (envOfC x (defScope st) s.heap.objs.size f cdv)) → DSs (cxOf CXF P w K mg base N x (defScope st) f cdv A outer s H E).nox W0 own (defBody st) den) :
    Cal P w K mg base x (k + 1) ps own (dDef own ps.length N.length den) := by
  obtain ⟨a, fd, F, g, b⟩ := F
  exact ⟨a, fd, fn_den F S (hb a), g, F.kp, b⟩
end
/-! ### more -/
def sStuck : SM := fun _ _ => .stuck
section
variable {X : Cx} {W : WD} {own : Bool}
theorem ds_never {st : Stmt} : DS X W own st sStuck := ps_imp ps_never fun E σ H ⟨C, l, rw, G, S, hp⟩ => hp.elim
def fNeg : D → Option D
  | .int i => some (.int (-i))
  | _ => none
theorem u_neg {K : PySem.W.Frag} : UnD K (rU fun i => .int (-i)) fNeg := by
  intro o G H d1 v1 d Q s r1 e q
  unfold fNeg at e
  split at e
  case h_2 => cases e
  case h_1 i =>
    cases e
    unfold Rep at r1
    exact ⟨i, r1, q _ H G (Same.refl _) (Gr.refl s) (by unfold Rep; rfl)⟩
/-- value.method(..), nothing changed -/
def tyV' (T : String) : D → Bool
  | .str _ => T == "str"
  | .lst _ => T == "list"
  | .dic _ _ => T == "dict"
  | _ => false
theorem tyV_ok {K : PySem.W.Frag} {o : Option Addr} {G H : Hp} {T : String} {d : D} {v : V} (s : Same G H) (r : Rep K o G d v) (h : tyV' T d = true) : tyV K T v H := by
  cases d with
  | str x =>
    unfold Rep at r
    subst r
    show T = "str"
    simpa [tyV'] using h
  | lst xs =>
    unfold Rep at r
    obtain ⟨a, vs, rfl, a1, _⟩ := r
    exact .inl ⟨by simpa [tyV'] using h, _, .of (s _ _ a1)⟩
  | dic ks xs =>
    unfold Rep at r
    obtain ⟨a, kvs, vs, rfl, a1, _⟩ := r
    exact .inr (.inr (.inl ⟨by simpa [tyV'] using h, .inl ⟨kvs, s _ _ a1⟩⟩))
  | _ => cases h
def eMeth (T : String) (f : D → List D → Option D) (g : EM D) (a : EM (List D)) : EM D := fun l rw => (g l rw).bind fun p => if tyV' T p.1 = true then (a l p.2).bind fun q => ofO (f p.1 q.1) q.2 else .stuck
def MeD (K : PySem.W.Frag) (r : V → List V → Hp → VK → Prop) (f : D → List D → Option D) : Prop := ∀ (o : Option Addr) (G H : Hp) (x : D) (ds : List D) (v : V) (vs : List V) (d : D) (Q : VK), Same G H → Rep K o G x v → Reps K o G ds vs → f x ds = some d →
  (∀ v H' G', Same H H' → Gr o H G H' G' → Rep K o G' d v → Q v H') → r v vs H Q
theorem de_meth {e : Expr} {T : String} {r : V → List V → Hp → VK → Prop} {f : D → List D → Option D} {g : EM D} {a : EM (List D)} (h : PE X e (tBM X.K T r (tD X.K W g) (tA X.K W a))) (hf : MeD X.K r f) : DE X W e (eMeth T f g a) := by
  refine pe_imp h fun σ H Q hq => ?_
  obtain ⟨C, l, rw, G, S, hp⟩ := hq
  refine seqD (P := PEq X.K W C l σ H G Q) S hp (fun _ _ z => z) (fun z => z) fun d rw1 v H1 G1 S1 s1 r1 h1 => ?_
  dsimp only [PEq] at h1
  by_cases ht : tyV' T d = true
  case neg => rw [if_neg ht] at h1; exact h1.elim
  rw [if_pos ht] at h1
  refine ⟨tyV_ok S1.sub r1 ht, ?_⟩
  refine seqA (P := PEq X.K W C l σ H G Q) S1 h1 (fun _ _ z => z) (fun z => z) fun ds rw2 vs H2 G2 S2 s2 r2 h2 => ?_
  dsimp only [PEq] at h2
  cases e3 : f d ds with
  | none => rw [e3] at h2; exact h2.elim
  | some z =>
    rw [e3] at h2
    exact hf C.r G2 H2 d ds v vs z Q S2.sub (r1.mono s2.g) r2 e3 fun v H' G' sh g r => h2 v H' G' (S2.grow0 sh g) ((s1.trans s2).trans g) r
/-- l.index(x): the first place of an equal one -/
def firstAt (x : D) : List D → Option Nat
  | [] => none
  | y :: ys => if eqD y x = true then some 0 else (firstAt x ys).map (· + 1)
def fIndex : D → List D → Option D
  | .lst ds, [x] => if fit 8 (.lst ds) = true ∧ fit 8 x = true then (firstAt x ds).map fun j => .int (j : Nat) else none
  | _, _ => none
theorem firstAt_ok {x : D} : ∀ {ds : List D} {j : Nat}, firstAt x ds = some j → ∃ z, (toPys ds)[j]? = some z ∧ PyData.eqv z (toPy x) = true ∧ ∀ (m : Nat) (z' : PyData), m < j → (toPys ds)[m]? = some z' → PyData.eqv z' (toPy x) = false
  | [], j, h => by simp [firstAt] at h
  | y :: ys, j, h => by
    unfold firstAt at h
    split at h
    · rename_i e
      cases h
      exact ⟨toPy y, by simp [toPys], e, fun m z' hm => absurd hm (Nat.not_lt_zero _)⟩
    · rename_i e
      cases q : firstAt x ys with
      | none => rw [q] at h; cases h
      | some i =>
        rw [q] at h
        cases h
        obtain ⟨z, h1, h2, h3⟩ := firstAt_ok q
        refine ⟨z, by simpa [toPys] using h1, h2, fun m z' hm hz => ?_⟩
        cases m with
        | zero =>
          simp [toPys] at hz
          subst hz
          exact Bool.eq_false_iff.mpr e
        | succ m => exact h3 m z' (Nat.lt_of_succ_lt_succ hm) (by simpa [toPys] using hz)
theorem m_index {K : PySem.W.Frag} : MeD K (rIndexD K) fIndex := by
  intro o G H x ds v vs d Q s r1 r2 e q
  unfold fIndex at e
  split at e
  case h_2 => cases e
  case h_1 xs x =>
    split at e
    case isFalse => cases e
    case isTrue h =>
      cases e2 : firstAt x xs with
      | none => rw [e2] at e; cases e
      | some j =>
        rw [e2] at e
        cases e
        obtain ⟨u, rfl, r3⟩ := reps1 r2
        obtain ⟨z, h1, h2, h3⟩ := firstAt_ok e2
        have d1 := dp_of s 8 _ _ h.1 r1
        have s1 := fit_shaped (d := .lst xs) (by decide) h.1
        unfold Rep at r1
        obtain ⟨a, us, rfl, _⟩ := r1
        simp only [toPy] at d1 s1
        exact ⟨a, u, toPy x, toPys xs, j, z, rfl, rfl, d1, dp_of s 8 _ _ h.2 r3, s1, fit_shaped (by decide) h.2, h1, h2, h3, q _ H G (Same.refl _) (Gr.refl s) (by unfold Rep; rfl)⟩
end
/-! ### a law -/
def spL (K : PySem.W.Frag) : Sp := fun vs H Q _ => ∃ (a : Addr) (ns : List Int), vs = [.ref a] ∧ SqL K H a (ns.map V.int) ∧ Only H ∧ ns.length ≤ 63 ∧ ∀ H', Q (.bl true) H'
section
variable {P : Program} {w : World} {K : PySem.W.Frag} {mg : Str → Option Value} {base : Heap} {f : Addr} {fd : FuncData}
theorem scr_rep {H : Hp} {a : Addr} {ns : List Int} (o : Option Addr) (h : SqL K H a (ns.map V.int)) (ho : Only H) (hl : ns.length ≤ sizeLine) : Rep K o H (.scr ns) (.ref a) := by
  unfold Rep
  refine ⟨a, rfl, ?_, hl⟩
  rcases h with (h | ⟨ob, h⟩) | h
  · rcases ho a with z | ⟨o, xs, z⟩
    · rw [h] at z; cases z
    · rw [h] at z; cases z
  · exact .inl ⟨ob, h⟩
  · exact .inr (.inr h)
/-- the law's own body: it lays the row, then the rest -/
theorem law_ok {st : Stmt} {N : List Str} {x : Str} {s0 : Stmt} {rest : List Stmt} {den : SM} {k : Nat} (F : FunD K "law" "law" (defArgs st) (defBody st) (defScope st) [] [] f fd) (S : FnScope N [x] (defScope st)) (hbody : defBody st = s0 :: rest)
    (hN : 2 ≤ N.length)
    (h0 : ∀ (cdv : Value) (A : Around) (outer : List Env) (s : Shared) (H : Hp) (E : XK), PS (cxOf CXF P w K mg base N "law" (defScope st) f cdv A outer s H E).nox s0 (tAsg (tLst (tCons (tVar 0) (tCons (tC (.int 0)) (tCons (tC (.int 0)) tNil)))) (gName 1)))
    (hb : ∀ (cdv : Value) (A : Around) (outer : List Env) (s : Shared) (H : Hp) (E : XK), Room k (A.deeper (envOfC "law" (defScope st) s.heap.objs.size f cdv)) → DSs (cxOf CXF P w K mg base N "law" (defScope st) f cdv A outer s H E).nox W0 false rest den)
    (hp : ∀ ns : List Int, ns.length ≤ 63 → ∃ l' rw', den (.val (.scr ns) :: .val .row :: List.replicate (N.length - 2) .no) (some ⟨ns, 0, 0⟩) = .ok (.ret (.bl true), l', rw')) :
    FnOk P w K mg base CXF (k + 1) f fd [x] (spL K) := by
  refine F.ok S (fun vs H Q E h => by obtain ⟨a, ns, rfl, _⟩ := h; rfl) fun cdv A outer s H vs Q E hr h => ?_
  obtain ⟨a, ns, rfl, hS, hO, hl, hQ⟩ := h
  rw [hbody]
  refine ⟨_, PSs.nox (pss_cons (h0 cdv A outer s H E) (hb cdv A outer s H E hr)), ?_⟩
  have hst : start N [V.ref a] = some (.ref a) :: none :: List.replicate (N.length - 2) none := by
    unfold L2.start
    show [some (V.ref a)] ++ List.replicate (N.length - 1) none = _
    obtain ⟨m, hm⟩ : ∃ m, N.length = m + 2 := ⟨N.length - 2, by omega⟩
    rw [hm]
    rfl
  rw [hst]
  refine ⟨.ref a, rfl, by show 3 ≤ sizeLine; rw [sizeLine_eq]; decide, fun p hp0 => ?_⟩
  obtain ⟨l', rw', e⟩ := hp ns hl
  have hl' : ns.length ≤ sizeLine := by rw [sizeLine_eq]; omega
  have hH : Same H (upd H p (.lst [.ref a, .int 0, .int 0])) := fun b u e => by rw [upd_ne (ne_of_none e hp0)]; exact e
  refine ⟨⟨some p, H, H⟩, .val (.scr ns) :: .val .row :: List.replicate (N.length - 2) .no, some ⟨ns, 0, 0⟩, H, ⟨hH, fun b o e _ => hH b o e, Same.refl _, fun b o e => .inl e, ?_, fun i x hi => ?_, fun i j d e q hij hi hj _ => ?_, ?_⟩, ?_⟩
  · simp
  · match i, hi with
    | 0, hi =>
      cases hi
      exact ⟨some (.ref a), rfl, .ref a, rfl, scr_rep _ hS hO hl'⟩
    | 1, hi =>
      cases hi
      exact ⟨some (.ref p), rfl, .ref p, rfl, by unfold Rep; exact ⟨p, rfl, rfl⟩⟩
    | i + 2, hi =>
      have hi : (List.replicate (N.length - 2) Sl.no)[i]? = some x := hi
      rw [List.getElem?_replicate] at hi
      split at hi
      · rename_i hlt
        cases hi
        refine ⟨none, ?_, trivial⟩
        show (List.replicate (N.length - 2) (none : Option V))[i]? = some none
        rw [List.getElem?_replicate, if_pos hlt]
      · cases hi
  · match i, hi with
    | 0, hi => cases hi
    | 1, hi => cases hi
    | i + 2, hi =>
      have hi : (List.replicate (N.length - 2) Sl.no)[i]? = some (.own d) := hi
      rw [List.getElem?_replicate] at hi
      split at hi <;> cases hi
  · exact ⟨hp0, .ref a, upd_same, scr_rep _ hS hO hl'⟩
  · rw [e]
    intro v σ' H' G' S' rr
    unfold RetRep at rr
    rw [if_neg Bool.false_ne_true] at rr
    unfold Rep at rr
    subst rr
    exact hQ H'
end
end HD
namespace HD
open PySem PySem.Spec L2
open PyProof.Rows hiding St
/-- no promise at all: the bottom of a recursion -/
theorem cal_zero {P : Program} {w : World} {K : PySem.W.Frag} {mg : Str → Option Value} {base : Heap} {x : Str} {st : Stmt} {ps : List Str} {own : Bool} (F : FnF K mg x st ps) : Cal P w K mg base x 0 ps own (fun _ _ => .stuck) := by
  obtain ⟨a, fd, F, g, b⟩ := F
  exact ⟨a, fd, ⟨fun vs H Q E h => by obtain ⟨r, G, ds, rw, s, q, wr, hp⟩ := h; exact hp.elim, fun A outer s H args us vs Q E _ _ _ _ h => by obtain ⟨r, G, ds, rw, s, q, wr, hp⟩ := h; exact hp.elim⟩, g, F.kp, b⟩
end HD
end
section
namespace HC
end HC
namespace HC
open PySem PySem.Spec L2 HD HC
open PyProof.Rows hiding St
def b_is_many : SM := (sRet (eChain fLe fLe (eK (.int 2)) (eV 0) (eK (.int 6))))
def d_is_many : FD := dDef false 1 1 b_is_many
def b_is_way : SM := (sSeq (sIf (tOr' (toB (eBin fNe (eArgs fLen (aCons (eV 2) aNil)) (eV 0))) (toB (eUn notNonD (eBin fIx (eV 2) (eV 1))))) (sRet (eK (.bl false))) sNext) (sSeq (sFor (aRng rng1 (aCons (eV 0) aNil)) (gN 3) (sSeq (sSet 4 (eBin fIx (eV 2) (eV 3))) (sIf (tAnd' (toB (eUn notNonD (eV 4))) (tOr' (tNot' (toB (eChain fLe fLt (eK (.int 0)) (eV 4) (eV 0)))) (toB (eBin fEq (eV 4) (eV 3))))) (sRet (eK (.bl false))) sNext))) (sRet (eK (.bl true)))))
def d_is_way : FD := dDef false 3 5 b_is_way
def b_need_web : SM := (sSeq (sAsg (eV 0) (gT 3 (gsCons (gN 1) (gsCons (gN 2) (gsCons (gN 3) gsNil))))) (sSeq (sIf (tNot' (toB (eCall d_is_many (aCons (eV 1) aNil)))) sStuck sNext) (sSeq (sIf (tOr' (toB (eBin fNe (eArgs fList (aCons (eV 2) aNil)) (eUn sortSet (eV 2)))) (toB (eBin fNe (eComp (aItems (eV 2)) (gN 5) (tNot' (toB (eChain fLe fLt (eK (.int 1)) (eV 5) (eV 1)))) (eV 5) [5]) (eLst aNil)))) sStuck sNext) (sSeq (sIf (toB (eBin fNe (eArgs fLen (aCons (eV 3) aNil)) (eBin fSub (eV 1) (eK (.int 1))))) sStuck sNext) (sFor (aRng rng2 (aCons (eK (.int 1)) (aCons (eV 1) aNil))) (gN 4) (sIf (tNot' (toB (eCall d_is_way (aCons (eV 1) (aCons (eV 4) (aCons (eBin fIx (eV 3) (eBin fSub (eV 4) (eK (.int 1)))) aNil)))))) sStuck sNext))))))
def d_need_web : FD := dDef false 1 6 b_need_web
def b_need_ask : SM := (sIf (tOr' (tNot' (toB (eChain fLe fLt (eK (.int 1)) (eV 1) (eV 0)))) (tNot' (toB (eChain fLe fLe (eK (.int 1)) (eV 2) (eK (.int 60)))))) sStuck sNext)
def d_need_ask : FD := dDef false 3 3 b_need_ask
def b_walk : SM := (sSeq (sExpr (eCall d_need_web (aCons (eV 0) aNil))) (sSeq (sExpr (eCall d_need_ask (aCons (eBin fIx (eV 0) (eK (.int 0))) (aCons (eV 1) (aCons (eK (.int 1)) aNil))))) (sSeq (sSet 2 (eBin fIx (eBin fIx (eV 0) (eK (.int 2))) (eBin fSub (eV 1) (eK (.int 1))))) (sSeq (sSetO 3 (eLst (aCons (eK (.int 0)) aNil))) (sWhile (toB (eK (.bl true))) (sSeq (sSet 4 (eBor 3 (eBin fIx (eV 2) (eBin fIx (eV 3) (eUn fNeg (eK (.int 1))))))) (sSeq (sIf (toB (eUn isNonD (eV 4))) (sRet (eTup (aCons (eTupO 3) (aCons (eK (.str "lost")) aNil)))) sNext) (sSeq (sIf (toB (eBin fEq (eV 4) (eV 1))) (sRet (eTup (aCons (eArgs fTuple (aCons (eCatO 3 (eLst (aCons (eV 1) aNil))) aNil)) (aCons (eK (.str "there")) aNil)))) sNext) (sSeq (sIf (tBor 3 (toB (eBin (fIn false) (eV 4) (eV 3)))) (sRet (eTup (aCons (eTupO 3) (aCons (eBor 3 (eMeth "list" fIndex (eV 3) (aCons (eV 4) aNil))) aNil)))) sNext) (sMut "list" 3 fAppend (aCons (eV 4) aNil)))))) 1000)))))
def d_walk : FD := dDef false 2 5 b_walk
def b__law_taken : SM := (sSeq (sRow 1 0 (eBin fAdd (eRow 1 0) (eK (.int 1)))) (sSeq (sIf (toB (eBin fGt (eRow 1 0) (eArgs fLen (aCons (eRow 0 0) aNil)))) (sSeq (sRow 2 0 (eBin fMod (eBin fAdd (eBin fMul (eRow 2 0) (eK (.int 48271))) (eK (.int 11))) (eK (.int 2147483647)))) (sRet (eBin fMod (eBin fFdiv (eRow 2 0) (eK (.int 7))) (eV 1)))) sNext) (sSeq (sSet 2 (eBin fIx (eRow 0 0) (eBin fSub (eRow 1 0) (eK (.int 1))))) (sSeq (sRow 2 0 (eBin fMod (eBin fAdd (eBin fAdd (eBin fMul (eRow 2 0) (eK (.int 48271))) (eV 2)) (eK (.int 11))) (eK (.int 2147483647)))) (sRet (eBin fMod (eV 2) (eV 1)))))))
def d__law_taken : FD := dDef false 2 3 b__law_taken
def b__law_alike (self : FD) : SM := (sSeq (sIf (tOr' (toB (eArgs fIsi (aCons (eV 1) (aCons (eK (.raw (.ty "tuple"))) aNil)))) (toB (eArgs fIsi (aCons (eV 1) (aCons (eK (.raw (.ty "list"))) aNil))))) (sSeq (sIf (tOr' (toB (eBin fNe (eArgs fIsi (aCons (eV 0) (aCons (eK (.raw (.ty "tuple"))) aNil))) (eArgs fIsi (aCons (eV 1) (aCons (eK (.raw (.ty "tuple"))) aNil))))) (tNot' (toB (eUn (fIsi2 "tuple" "list") (eV 0))))) (sRet (eK (.bl false))) sNext) (sSeq (sIf (toB (eBin fNe (eArgs fLen (aCons (eV 0) aNil)) (eArgs fLen (aCons (eV 1) aNil)))) (sRet (eK (.bl false))) sNext) (sRet (eBin fEq (eComp (aRng rng1 (aCons (eArgs fLen (aCons (eV 1) aNil)) aNil)) (gN 2) (tNot' (toB (eCall self (aCons (eBin fIx (eV 0) (eV 2)) (aCons (eBin fIx (eV 1) (eV 2)) aNil))))) (eV 2) [2]) (eLst aNil))))) sNext) (sSeq (sIf (tOr' (toB (eUn isNonD (eV 1))) (toB (eUn isNonD (eV 0)))) (sRet (vAnd (eUn isNonD (eV 1)) (eUn isNonD (eV 0)))) sNext) (sSeq (sIf (tOr' (toB (eArgs fIsi (aCons (eV 1) (aCons (eK (.raw (.ty "bool"))) aNil)))) (toB (eArgs fIsi (aCons (eV 0) (aCons (eK (.raw (.ty "bool"))) aNil))))) (sRet (vAnd (eArgs fIsi (aCons (eV 1) (aCons (eK (.raw (.ty "bool"))) aNil))) (vAnd (eArgs fIsi (aCons (eV 0) (aCons (eK (.raw (.ty "bool"))) aNil))) (eBin fEq (eV 0) (eV 1))))) sNext) (sSeq (sIf (toB (eArgs fIsi (aCons (eV 1) (aCons (eK (.raw (.ty "str"))) aNil)))) (sRet (vAnd (eArgs fIsi (aCons (eV 0) (aCons (eK (.raw (.ty "str"))) aNil))) (eBin fEq (eV 0) (eV 1)))) sNext) (sRet (vAnd (eArgs fIsi (aCons (eV 0) (aCons (eK (.raw (.ty "int"))) aNil))) (eBin fEq (eV 0) (eV 1))))))))
def r__law_alike : Nat → FD
  | 0 => fun _ _ => .stuck
  | n + 1 => dDef false 2 3 (b__law_alike (r__law_alike n))
def d__law_alike : FD := r__law_alike 6
def b__law_way : SM := (sSeq (sSetO 4 (eLst aNil)) (sSeq (sFor (aRng rng1 (aCons (eV 1) aNil)) (gN 5) (sSeq (sSet 7 (eComp (aRng rng1 (aCons (eV 1) aNil)) (gN 6) (toB (eBin fNe (eV 6) (eV 5))) (eV 6) [6])) (sSeq (sSet 6 (eBin fIx (eV 7) (eCall d__law_taken (aCons (eV 0) (aCons (eArgs fLen (aCons (eV 7) aNil)) aNil))))) (sSeq (sIf (tOr' (tAnd' (toB (eBin fEq (eV 3) (eK (.int 1)))) (toB (eBin fEq (eCall d__law_taken (aCons (eV 0) (aCons (eK (.int 3)) aNil))) (eK (.int 0))))) (tAnd' (toB (eBin fEq (eV 3) (eK (.int 0)))) (toB (eBin fEq (eCall d__law_taken (aCons (eV 0) (aCons (eK (.int 8)) aNil))) (eK (.int 7)))))) (sSet 6 (eK .non)) sNext) (sSeq (sIf (tAnd' (toB (eBin fEq (eV 3) (eK (.int 2)))) (toB (eBin fGt (eCall d__law_taken (aCons (eV 0) (aCons (eK (.int 3)) aNil))) (eK (.int 0))))) (sSet 6 (eBin fMod (eBin fAdd (eV 5) (eK (.int 1))) (eV 1))) sNext) (sMut "list" 4 fAppend (aCons (eIf (toB (eBin fEq (eV 5) (eV 2))) (eK .non) (eV 6)) aNil))))))) (sRet (eTupO 4))))
def d__law_way : FD := dDef false 4 8 b__law_way
def b__law_web : SM := (sSeq (sSet 3 (eBin fAdd (eV 1) (eCall d__law_taken (aCons (eV 0) (aCons (eBin fAdd (eBin fSub (eV 2) (eV 1)) (eK (.int 1))) aNil))))) (sSeq (sSet 4 (eBin fIx (eLst (aCons (eK (.int 2)) (aCons (eK (.int 4)) (aCons (eK (.int 99)) aNil)))) (eCall d__law_taken (aCons (eV 0) (aCons (eK (.int 3)) aNil))))) (sSeq (sSet 5 (eComp (aRng rng2 (aCons (eK (.int 1)) (aCons (eV 3) aNil))) (gN 6) (toB (eBin fEq (eCall d__law_taken (aCons (eV 0) (aCons (eV 4) aNil))) (eK (.int 1)))) (eV 6) [6])) (sRet (eTup (aCons (eV 3) (aCons (eArgs fTuple (aCons (eV 5) aNil)) (aCons (eArgs fTuple (aCons (eComp (aRng rng2 (aCons (eK (.int 1)) (aCons (eV 3) aNil))) (gN 7) cYes (eCall d__law_way (aCons (eV 0) (aCons (eV 3) (aCons (eV 7) (aCons (eCall d__law_taken (aCons (eV 0) (aCons (eK (.int 3)) aNil))) aNil))))) [7]) aNil)) aNil))))))))
def d__law_web : FD := dDef false 3 8 b__law_web
def b__law_walk : SM := (sSeq (sSetO 2 (eLst (aCons (eK (.int 0)) aNil))) (sSeq (sFor (aRng rng1 (aCons (eBin fAdd (eArgs fLen (aCons (eV 0) aNil)) (eK (.int 1))) aNil)) (gN 3) (sSeq (sSet 4 (eBor 2 (eBin fIx (eV 0) (eBin fIx (eV 2) (eUn fNeg (eK (.int 1))))))) (sSeq (sIf (toB (eUn isNonD (eV 4))) (sRet (eTup (aCons (eTupO 2) (aCons (eK (.str "lost")) aNil)))) sNext) (sSeq (sIf (tBor 2 (toB (eBin (fIn false) (eV 4) (eV 2)))) (sRet (eTup (aCons (eTupO 2) (aCons (eBor 2 (eBin fIx (eComp (aRng rng1 (aCons (eArgs fLen (aCons (eV 2) aNil)) aNil)) (gN 5) (toB (eBin fEq (eBin fIx (eV 2) (eV 5)) (eV 4))) (eV 5) [5]) (eK (.int 0)))) aNil)))) sNext) (sSeq (sMut "list" 2 fAppend (aCons (eV 4) aNil)) (sIf (toB (eBin fEq (eV 4) (eV 1))) (sRet (eTup (aCons (eTupO 2) (aCons (eK (.str "there")) aNil)))) sNext)))))) (sRet (eK .non))))
def d__law_walk : FD := dDef false 2 6 b__law_walk
end HC
namespace K03
open PySem PySem.Spec L2 HD HC
open PyProof.Rows hiding St
def b_law : SM := (sSeq (sFor (aRng rng1 (aCons (eK (.int 6)) aNil)) (gN 2) (sSeq (sSet 3 (eCall d__law_web (aCons (eV 1) (aCons (eK (.int 2)) (aCons (eK (.int 6)) aNil))))) (sFor (aRng rng2 (aCons (eK (.int 1)) (aCons (eBin fIx (eV 3) (eK (.int 0))) aNil))) (gN 4) (sIf (tNot' (toB (eCall d__law_alike (aCons (eCall d_walk (aCons (eV 3) (aCons (eV 4) aNil))) (aCons (eCall d__law_walk (aCons (eBin fIx (eBin fIx (eV 3) (eK (.int 2))) (eBin fSub (eV 4) (eK (.int 1)))) (aCons (eV 4) aNil))) aNil))))) (sRet (eK (.bl false))) sNext)))) (sRet (eK (.bl true))))
end K03
end
section
/-! Slices, and tuples of texts that are constants of the module. -/
namespace HD
open PySem PySem.Spec L2
open PyProof.Rows hiding St
def cutD (xs : List D) (lo hi : Option Int) : List D := (xs.drop (HT.sIx xs.length 0 lo)).take (HT.sIx xs.length xs.length hi - HT.sIx xs.length 0 lo)
def fSl : D → Option Int → Option Int → Option D
  | .lst ds, lo, hi => some (.lst (cutD ds lo hi))
  | .tup ds, lo, hi => some (.tup (cutD ds lo hi))
  | .str z, lo, hi => if z.length ≤ 100000 then some (.str (cutS z lo hi)) else none
  | _, _, _ => none
def pNone : EM (Option Int) := fun _ rw => .ok (none, rw)
def pSome (g : EM D) : EM (Option Int) := fun l rw => (g l rw).bind fun p => match p.1 with
  | .int i => .ok (some i, p.2)
  | _ => .stuck
def eSl (g : EM D) (lo hi : EM (Option Int)) : EM D := fun l rw => (g l rw).bind fun p => (lo l p.2).bind fun q => (hi l q.2).bind fun r => ofO (fSl p.1 q.1 r.1) r.2
section
variable {K : PySem.W.Frag} {o : Option Addr} {G : Hp}
theorem Reps.cut {ds : List D} {vs : List V} (h : Reps K o G ds vs) (lo hi : Option Int) : Reps K o G (cutD ds lo hi) (cutV vs lo hi) := by
  unfold cutD cutV
  rw [h.length]
  exact (h.drop _).take _
end
section
variable {X : Cx} {W : WD}
def PartPost (K : PySem.W.Frag) (W : WD) (C : C0) (l : Dl) (σ : St) (H G : Hp) (q : R (Option Int × Rw)) (Q : Option Int → Hp → Prop) : Prop :=
  match q with
  | .ok (o, rw') => ∀ H' G', SR K C l rw' σ H' G' → Gr C.r H G H' G' → Q o H'
  | .exc x rw' => ∀ H' G', SR K C l rw' σ H' G' → W x σ H'
  | .stuck => False
def tP (K : PySem.W.Frag) (W : WD) (g : EM (Option Int)) : TO := fun σ H Q => ∃ C l rw G, SR K C l rw σ H G ∧ PartPost K W C l σ H G (g l rw) Q
def DP (X : Cx) (W : WD) (e : Option Expr) (g : EM (Option Int)) : Prop := PO X e (tP X.K W g)
theorem po_imp {e : Option Expr} {t u : TO} (h : PO X e t) (i : ∀ σ H Q, u σ H Q → t σ H Q) : PO X e u := ⟨fun pins s σ H Q I hq => h.run pins s σ H Q I (i σ H Q hq)⟩
theorem dp_none : DP X W none pNone := po_imp po_none fun σ H Q hq => by
  obtain ⟨C, l, rw, G, S, hp⟩ := hq
  exact hp H G S (Gr.refl S.sub)
theorem dp_some {e : Expr} {g : EM D} (h : DE X W e g) : DP X W (some e) (pSome g) := po_imp (po_some h) fun σ H Q hq => by
  obtain ⟨C, l, rw, G, S, hp⟩ := hq
  refine seqD (P := fun q => PartPost X.K W C l σ H G q Q) S hp (fun _ _ z => z) (fun z => z) fun d rw1 v H1 G1 S1 s1 r1 h1 => ?_
  cases d with
  | int i =>
    unfold Rep at r1
    exact ⟨i, r1, h1 H1 G1 S1 s1⟩
  | _ => exact h1.elim
theorem seqP {g : EM (Option Int)} {β : Type} {k : Option Int × Rw → R β} {P : R β → Prop} {C : C0} {l : Dl} {rw : Rw} {σ : St} {H G : Hp} {K : PySem.W.Frag} {Q' : Option Int → Hp → Prop} (S : SR K C l rw σ H G) (hp : P ((g l rw).bind k)) (hx : ∀ x w, P (.exc x w) → ∀ H' G', SR K C l w σ H' G' → W x σ H') (hs : P .stuck → False)
    (f : ∀ b rw' H' G', SR K C l rw' σ H' G' → Gr C.r H G H' G' → P (k (b, rw')) → Q' b H') : tP K W g σ H Q' := by
  refine ⟨C, l, rw, G, S, ?_⟩
  cases e1 : g l rw with
  | exc x w => rw [e1] at hp; exact hx x w hp
  | stuck => rw [e1] at hp; exact (hs hp).elim
  | ok p =>
    obtain ⟨d, rw'⟩ := p
    rw [e1] at hp
    exact fun H' G' S' g' => f d rw' H' G' S' g' hp
def rSl3 (K : PySem.W.Frag) : V → Option Int → Option Int → Hp → VK → Prop := fun x lo hi H Q => rSlL K x lo hi H Q ∨ (rSlA K x lo hi H Q ∨ rSlS x lo hi H Q)
theorem sl_3 : SlR X (rSl3 X.K) := sl_list.or (sl_tupA.or sl_str)
theorem cutD_whole {xs : List D} {n : Nat} {lo hi : Option Int} (hn : xs.length = n) (h : HT.sIx n 0 lo = 0 ∧ HT.sIx n n hi = n) : cutD xs lo hi = xs := by
  subst hn
  unfold cutD
  rw [h.1, h.2]
  simp
theorem sl3_ok {K : PySem.W.Frag} {o : Option Addr} {G H : Hp} {d1 d : D} {v1 : V} {lo hi : Option Int} {Q : VK} (s : Same G H) (r : Rep K o G d1 v1) (e : fSl d1 lo hi = some d) (q : ∀ v H' G', Same H H' → Gr o H G H' G' → Rep K o G' d v → Q v H') : rSl3 K v1 lo hi H Q := by
  unfold fSl at e
  split at e
  case h_4 => cases e
  case h_1 ds =>
    cases e
    unfold Rep at r
    obtain ⟨a, us, rfl, a1, a2, a3⟩ := r
    refine .inl ⟨a, us, rfl, .of (s _ _ a1), fun p hp => q _ _ _ (fun c u e => by rw [upd_ne (ne_of_none e hp)]; exact e) (Gr.new s hp) (ObjD.rep (d := .lst (cutD ds lo hi)) ⟨cutV us lo hi, rfl, Nat.le_trans (cutV_length us lo hi) a2, a3.cut lo hi⟩ (gnone_of s hp))⟩
  case h_2 ds =>
    cases e
    unfold Rep at r
    obtain ⟨a, us, rfl, a1, a2, a3⟩ := r
    refine .inr (.inl ⟨a, us, rfl, Same.seqT s a1, fun h0 => ?_, fun _ p hp => q _ _ _ (fun c u e => by rw [upd_ne (ne_of_none e hp)]; exact e) (Gr.new s hp) (ObjD.rep (d := .tup (cutD ds lo hi)) ⟨cutV us lo hi, rfl, Nat.le_trans (cutV_length us lo hi) a2, a3.cut lo hi⟩ (gnone_of s hp))⟩)
    refine q _ H G (Same.refl _) (Gr.refl s) ?_
    rw [cutD_whole a3.length h0]
    unfold Rep
    exact ⟨a, us, rfl, a1, a2, a3⟩
  case h_3 z =>
    split at e
    case isFalse => cases e
    case isTrue hz =>
      cases e
      unfold Rep at r
      subst r
      exact .inr (.inr ⟨z, rfl, by rw [sizeLine_eq]; omega, q _ H G (Same.refl _) (Gr.refl s) (by unfold Rep; rfl)⟩)
theorem de_sl {e : Expr} {g : EM D} {lo hi : Option Expr} {pl ph : EM (Option Int)} {pos p2 : Pos} (h : DE X W e g) (hl : DP X W lo pl) (hh : DP X W hi ph) : DE X W (.Subscript e (.Slice lo hi none p2) pos) (eSl g pl ph) := by
  refine pe_imp (pe_slice sl_3 h hl hh) fun σ H Q hq => ?_
  obtain ⟨C, l, rw, G, S, hp⟩ := hq
  refine seqD (P := PEq X.K W C l σ H G Q) S hp (fun _ _ z => z) (fun z => z) fun d1 rw1 v1 H1 G1 S1 s1 r1 h1 => ?_
  refine seqP (P := PEq X.K W C l σ H G Q) S1 h1 (fun _ _ z => z) (fun z => z) fun o2 rw2 H2 G2 S2 s2 h2 => ?_
  refine seqP (P := PEq X.K W C l σ H G Q) S2 h2 (fun _ _ z => z) (fun z => z) fun o3 rw3 H3 G3 S3 s3 h3 => ?_
  dsimp only [PEq] at h3
  cases e3 : fSl d1 o2 o3 with
  | none => rw [e3] at h3; exact h3.elim
  | some d =>
    rw [e3] at h3
    exact sl3_ok S3.sub ((r1.mono s2.g).mono s3.g) e3 fun v H' G' sh g r => h3 v H' G' (S3.grow0 sh g) (((s1.trans s2).trans s3).trans g) r
end
/-! ### a tuple of texts that is a constant -/
def TupC (K : PySem.W.Frag) (mg : Str → Option Value) (x : Str) (zs : List Str) : Prop := ∃ a, mg x = some (.ref a) ∧ (∀ H, SqT K H a (zs.map V.str)) ∧ zs.length ≤ sizeLine
theorem reps_str {K : PySem.W.Frag} {o : Option Addr} {G : Hp} : ∀ zs : List Str, Reps K o G (zs.map D.str) (zs.map V.str)
  | [] => Reps.nil
  | z :: zs => Reps.cons (by unfold Rep; rfl) (reps_str zs)
theorem de_gtup {X : Cx} {W : WD} {x : Str} {zs : List Str} {pos : Pos} (hg : Gl X x) (hm : TupC X.K X.mg x zs) (hd : (x == ("__debug__" : Str)) = false := by decide) : DE X W (.Name x pos) (eK (.tup (zs.map D.str))) := by
  obtain ⟨a, h1, h2, h3⟩ := hm
  exact de_gref hg h1 (fun o G => by unfold Rep; exact ⟨a, zs.map V.str, rfl, h2 G, by rw [List.length_map]; exact h3, reps_str zs⟩) hd
theorem tupC_of {K : PySem.W.Frag} {h : Heap} {mg : Str → Option Value} (X : K.In h) (G : h.Ns mainGlobals mg) {x : Str} (c : (He.Fa.glo x).ok K = true) {zs : List Str} (t : He.tupB K x (zs.map He.Dv.str) = true) (hz : zs.length ≤ 100000) : TupC K mg x zs := by
  refine ⟨He.ga K x, He.glo_ok X G c, fun H => ?_, by rw [sizeLine_eq]; omega⟩
  have := He.tupB_ok t H
  rw [List.map_map] at this
  exact this
/-! ### a Hook with a test of one's own -/
abbrev AlC : Type := He.AlD × Bool
def obC (n : Nat) (fa : List He.Fa) (fn : List He.DefD) (ex : PySem.W.Frag → Bool) (g : Addr → Option Obj) : AlC := (He.obsDG n fa fn g, ex (He.frG g (He.asD g n)))
def hookC (n : Nat) (fa : List He.Fa) (fn : List He.DefD) (ex : PySem.W.Frag → Bool) : PySem.W.Hook where
  α := AlC
  obs := fun s => obC n fa fn ex s.heap.get?
  val := fun _ => (He.valD fn, true)
  says := fun _ h => ∃ K : PySem.W.Frag, K.In h ∧ He.SaysD fa fn K ∧ ex K = true
  of := fun _ _ e => ⟨_, He.frG_in, congrArg Prod.fst e, congrArg Prod.snd e⟩
  keeps := fun _ _ _ ⟨K, hK, c⟩ k => ⟨K, PySem.W.Frag.In.keeps hK k, c⟩
theorem obC_eq {n : Nat} {fa : List He.Fa} {fn : List He.DefD} {ex : PySem.W.Frag → Bool} {g : Addr → Option Obj} {s : Shared} (h : ∀ a, g a = s.heap.get? a) : obC n fa fn ex g = (hookC n fa fn ex).obs s := by
  have e : g = s.heap.get? := funext h
  rw [e] <;> rfl
end HD
end
section
namespace HC
end HC
namespace HC
open PySem PySem.Spec L2 HD HC
open PyProof.Rows hiding St
def b_steps_to : SM := (sRet (eBin fMul (eK (.int 2)) (eV 0)))
def d_steps_to : FD := dDef false 1 1 b_steps_to
def b_posts_on : SM := (sSeq (sSet 3 (eK (.int 0))) (sSeq (sSetO 4 (eLst aNil)) (sSeq (sFor (aRng rng1 (aCons (eV 2) aNil)) (gN 5) (sSeq (sIf (tAnd' (toB (eUn notNonD (eV 3))) (toB (eBin fNe (eV 3) (eV 1)))) (sSet 3 (eBin fIx (eV 0) (eV 3))) sNext) (sMut "list" 4 fAppend (aCons (eV 3) aNil)))) (sRetV 4))))
def d_posts_on : FD := dDef true 3 6 b_posts_on
def b_answer_of : SM := (sSeq (sIf (tOr' (toB (eUn isNonD (eV 2))) (toB (eBin (fIn false) (eV 2) (eV 0)))) (sRet (eK (.tup [.str "nothing"]))) sNext) (sRet (eTup (aCons (eIf (toB (eBin fEq (eV 2) (eV 1))) (eK (.str "there")) (eK (.str "gone"))) (aCons (eV 2) aNil)))))
def d_answer_of : FD := dDef false 3 3 b_answer_of
def b_answers_of : SM := (sRet (eComp (aItems (eCall d_posts_on (aCons (eV 1) (aCons (eV 2) (aCons (eV 3) aNil))))) (gN 4) cYes (eCall d_answer_of (aCons (eV 0) (aCons (eV 2) (aCons (eV 4) aNil)))) [4]))
def d_answers_of : FD := dDef true 4 5 b_answers_of
def b_asked : SM := (sSeq (sExpr (eCall d_need_web (aCons (eV 0) aNil))) (sSeq (sExpr (eCall d_need_ask (aCons (eBin fIx (eV 0) (eK (.int 0))) (aCons (eV 1) (aCons (eV 2) aNil))))) (sRet (eBin fIx (eCall d_answers_of (aCons (eBin fIx (eV 0) (eK (.int 1))) (aCons (eBin fIx (eBin fIx (eV 0) (eK (.int 2))) (eBin fSub (eV 1) (eK (.int 1)))) (aCons (eV 1) (aCons (eV 2) aNil))))) (eUn fNeg (eK (.int 1)))))))
def d_asked : FD := dDef false 3 3 b_asked
def b_answers : SM := (sSeq (sExpr (eCall d_need_web (aCons (eV 0) aNil))) (sSeq (sExpr (eCall d_need_ask (aCons (eBin fIx (eV 0) (eK (.int 0))) (aCons (eV 1) (aCons (eK (.int 1)) aNil))))) (sRet (eCall d_answers_of (aCons (eBin fIx (eV 0) (eK (.int 1))) (aCons (eBin fIx (eBin fIx (eV 0) (eK (.int 2))) (eBin fSub (eV 1) (eK (.int 1)))) (aCons (eV 1) (aCons (eCall d_steps_to (aCons (eBin fIx (eV 0) (eK (.int 0))) aNil)) aNil))))))))
def d_answers : FD := dDef true 2 2 b_answers
def b__law_asked : SM := (sSeq (sAsg (eV 0) (gT 3 (gsCons (gN 3) (gsCons (gN 4) (gsCons (gN 5) gsNil))))) (sSeq (sSet 6 (eK (.int 0))) (sSeq (sWhile (tAnd' (toB (eBin fGt (eV 2) (eK (.int 0)))) (tAnd' (toB (eUn notNonD (eV 6))) (toB (eBin fNe (eV 6) (eV 1))))) (sSeq (sSet 6 (eBin fIx (eBin fIx (eV 5) (eBin fSub (eV 1) (eK (.int 1)))) (eV 6))) (sSet 2 (eBin fSub (eV 2) (eK (.int 1))))) 1000) (sSeq (sIf (tOr' (toB (eUn isNonD (eV 6))) (toB (eBin (fIn false) (eV 6) (eV 4)))) (sRet (eTup (aCons (eK (.str "nothing")) aNil))) sNext) (sRet (eIf (toB (eBin fEq (eV 6) (eV 1))) (eTup (aCons (eK (.str "there")) (aCons (eV 1) aNil))) (eTup (aCons (eK (.str "gone")) (aCons (eV 6) aNil)))))))))
def d__law_asked : FD := dDef false 3 7 b__law_asked
def b__law_answers : SM := (sRet (eComp (aRng rng2 (aCons (eK (.int 1)) (aCons (eBin fAdd (eV 2) (eK (.int 1))) aNil))) (gN 3) cYes (eCall d__law_asked (aCons (eV 0) (aCons (eV 1) (aCons (eV 3) aNil)))) [3]))
def d__law_answers : FD := dDef true 3 4 b__law_answers
end HC
namespace K02
open PySem PySem.Spec L2 HD HC
open PyProof.Rows hiding St
def b_law : SM := (sSeq (sFor (aRng rng1 (aCons (eK (.int 3)) aNil)) (gN 2) (sSeq (sSet 3 (eCall d__law_web (aCons (eV 1) (aCons (eK (.int 2)) (aCons (eK (.int 6)) aNil))))) (sFor (aRng rng2 (aCons (eK (.int 1)) (aCons (eBin fIx (eV 3) (eK (.int 0))) aNil))) (gN 4) (sSeq (sSet 5 (eCall d__law_answers (aCons (eV 3) (aCons (eV 4) (aCons (eK (.int 60)) aNil))))) (sSeq (sIf (tNot' (toB (eCall d__law_alike (aCons (eComp (aRng rng2 (aCons (eK (.int 1)) (aCons (eK (.int 61)) aNil))) (gN 8) cYes (eCall d_asked (aCons (eV 3) (aCons (eV 4) (aCons (eV 8) aNil)))) [8]) (aCons (eV 5) aNil))))) (sRet (eK (.bl false))) sNext) (sFor (aRng rng1 (aCons (eK (.int 2)) aNil)) (gN 6) (sSeq (sSetO 7 (eCall d_answers (aCons (eV 3) (aCons (eV 4) aNil)))) (sSeq (sIf (tNot' (tBor 7 (toB (eCall d__law_alike (aCons (eV 7) (aCons (eSl (eV 5) pNone (pSome (eBin fMul (eK (.int 2)) (eBin fIx (eV 3) (eK (.int 0)))))) aNil)))))) (sRet (eK (.bl false))) sNext) (sMut "list" 7 fAppend (aCons (eTup (aCons (eK (.str "gone")) (aCons (eK (.int 0)) aNil))) aNil)))))))))) (sRet (eK (.bl true))))
end K02
end
section
/-! Texts: str of a number, int of a text, join, split, one sign in a text. -/
namespace HD
open PySem PySem.Spec L2
open PyProof.Rows hiding St
section
variable {K : PySem.W.Frag}
def fStr : List D → Option D
  | [.int i] => if i.natAbs ≤ 1000 then some (.str (toString i)) else none
  | _ => none
theorem a_str : ArD K (fun xs H Q => ∃ i : Int, xs = [.int i] ∧ i.natAbs.log2 < 1920 ∧ Q (.str (toString i)) H) fStr := by
  intro o G H ds vs d Q s r e q
  unfold fStr at e
  split at e
  case h_2 => cases e
  case h_1 i =>
    split at e
    case isFalse => cases e
    case isTrue h =>
      cases e
      obtain ⟨v, rfl, r1⟩ := reps1 r
      unfold Rep at r1
      subst r1
      exact ⟨i, rfl, Nat.lt_of_le_of_lt (Nat.log2_le_self _) (by omega), q _ H G (Same.refl _) (Gr.refl s) (by unfold Rep; rfl)⟩
def fInt : List D → Option D
  | [.str a] => if a.length ≤ 640 then (PySem.intText? a).map .int else none
  | _ => none
theorem a_int : ArD K (fun xs H Q => ∃ a n, xs = [.str a] ∧ PySem.intText? a = some n ∧ a.length ≤ 640 ∧ Q (.int n) H) fInt := by
  intro o G H ds vs d Q s r e q
  unfold fInt at e
  split at e
  case h_2 => cases e
  case h_1 a =>
    split at e
    case isFalse => cases e
    case isTrue h =>
      cases hn : PySem.intText? a with
      | none => rw [hn] at e; cases e
      | some n =>
        rw [hn] at e
        cases e
        obtain ⟨v, rfl, r1⟩ := reps1 r
        unfold Rep at r1
        subst r1
        exact ⟨a, n, rfl, hn, h, q _ H G (Same.refl _) (Gr.refl s) (by unfold Rep; rfl)⟩
def toStrs : List D → Option (List Str)
  | [] => some []
  | .str x :: ds => (toStrs ds).map (x :: ·)
  | _ :: _ => none
theorem toStrs_ok {o : Option Addr} {G : Hp} : ∀ {ds : List D} {ys : List Str} {vs : List V}, toStrs ds = some ys → Reps K o G ds vs → vs = ys.map V.str
  | [], ys, vs, h, r => by
    cases h
    unfold Reps at r
    exact r
  | d :: ds, ys, vs, h, r => by
    unfold Reps at r
    obtain ⟨v, t, rfl, r1, r2⟩ := r
    cases d with
    | str x =>
      unfold toStrs at h
      cases q : toStrs ds with
      | none => rw [q] at h; cases h
      | some zs =>
        rw [q] at h
        cases h
        unfold Rep at r1
        subst r1
        rw [toStrs_ok q r2]
        rfl
    | _ => cases h
def fJoin : D → List D → Option D
  | .str a, [.lst ds] => (toStrs ds).bind fun ys => if (ys.map (·.length)).sum + ys.length * a.length ≤ 100000 then some (.str (Txt.join a ys)) else none
  | _, _ => none
theorem m_join : MeD K (fun x xs H Q => ∃ a p, ∃ ys : List Str, x = .str a ∧ xs = [.ref p] ∧ (SqL K H p (ys.map V.str) ∨ SqT K H p (ys.map V.str)) ∧
    (ys.map (·.length)).sum + ys.length * a.length ≤ 16777216 ∧ Q (.str (Txt.join a ys)) H) fJoin := by
  intro o G H x ds v vs d Q s r1 r2 e q
  unfold fJoin at e
  split at e
  case h_2 => cases e
  case h_1 a ds =>
    cases h1 : toStrs ds with
    | none => rw [h1] at e; cases e
    | some ys =>
      rw [h1] at e
      simp only [Option.bind_some] at e
      split at e
      case isFalse => cases e
      case isTrue hz =>
        cases e
        obtain ⟨u, rfl, r3⟩ := reps1 r2
        unfold Rep at r1
        subst r1
        unfold Rep at r3
        obtain ⟨b, us, rfl, a1, a2, a3⟩ := r3
        rw [toStrs_ok h1 a3] at a1
        exact ⟨a, b, ys, rfl, rfl, .inl (.of (s _ _ a1)), by omega, q _ H G (Same.refl _) (Gr.refl s) (by unfold Rep; rfl)⟩
def fSplit : D → List D → Option D
  | .str a, [.str b] => if (b.length == 0) = false ∧ a.length ≤ 100000 then some (.lst ((Txt.split a b).map .str)) else none
  | _, _ => none
theorem m_split : MeD K (fun x xs H Q => ∃ a b, x = .str a ∧ xs = [.str b] ∧ (b.length == 0) = false ∧ a.length + 2 ≤ sizeLine ∧ rNewStrs (Txt.split a b) H Q) fSplit := by
  intro o G H x ds v vs d Q s r1 r2 e q
  unfold fSplit at e
  split at e
  case h_2 => cases e
  case h_1 a b =>
    split at e
    case isFalse => cases e
    case isTrue hz =>
      cases e
      obtain ⟨u, rfl, r3⟩ := reps1 r2
      unfold Rep at r1 r3
      subst r1 r3
      have hs : a.length + 2 ≤ sizeLine := by rw [sizeLine_eq]; omega
      exact ⟨a, b, rfl, rfl, hz.1, hs, fun p hp => q _ _ _ (fun c u e => by rw [upd_ne (ne_of_none e hp)]; exact e) (Gr.new s hp)
        (ObjD.rep (d := .lst ((Txt.split a b).map .str)) ⟨(Txt.split a b).map V.str, rfl, by rw [List.length_map]; exact Nat.le_trans (PyProof.Rows.split_le a b) hs, reps_str _⟩ (gnone_of s hp))⟩
def fInS (neg : Bool) : D → D → Option D
  | .str x, .str z => match x.cps.toList with
    | [c] => some (.bl (if neg = true then !decide (c ∈ z.cps.toList) else decide (c ∈ z.cps.toList)))
    | _ => none
  | _, _ => none
theorem c_notInS : CmpD K (fun x y H Q => ∃ (c : Nat) (z : Str), x = .str ⟨#[c]⟩ ∧ y = .str z ∧ Q (.bl (!decide (c ∈ z.cps.toList))) H) (fInS true) := by
  intro o G H d1 d2 v1 v2 d Q s r1 r2 e q
  unfold fInS at e
  split at e
  case h_2 => cases e
  case h_1 x z =>
    split at e
    case h_2 => cases e
    case h_1 c hc =>
      cases e
      unfold Rep at r1 r2
      subst r1 r2
      have hx : x = ⟨#[c]⟩ := by
        obtain ⟨⟨l⟩⟩ := x
        have : l = [c] := hc
        subst this
        rfl
      subst hx
      exact ⟨c, z, rfl, rfl, q _ (by unfold Rep; rfl)⟩
end
end HD
end
section
/-! max(numbers, default=k). -/
namespace MxD
open PySem
open Sem (wp)
theorem lname : (toString "max" ++ toString ".loop" : String) = "max.loop" := by decide
theorem margs (a d : Value) : argsOk "max" ⟨[a], [(Str.ofString "default", d)]⟩ := by unfold argsOk; first | rfl | kernel_rfl
theorem mbind (d : Value) : Builtin.Builtins.bindParams "max" ["key", "default"] 0 ⟨[], [(Str.ofString "default", d)]⟩ = pure [none, some d] := by first | rfl | kernel_rfl
section
variable {prog : Program} {w : World} {A : Around} {Rz : Result → Shared → Prop} {J : Addr} {fp wr : List Addr} {n : Nat} {P : Nat → Value → Prop} {St : Nat → Heap → Prop} {d : Value}
theorem loopM (wk : Walks prog w A.in1 J fp wr n P St) (bt : Nat → Nat → Bool) (cm : CmpOf prog w A.in1 .Gt P bt) (B : Addr) (nB : B ∉ fp) :
    ∀ (k j : Nat) (s : Shared) (vb : Value) (c : Nat), n - (j + 1) = k → j + 1 ≤ n → St (j + 1) s.heap → P (argBest bt j) vb →
    s.heap.get? B = some { cls := .type "list", dict := none, data := .seq #[vb, vb] c, slots := #[] } →
    (∀ v h' tk, P (argBest bt (n - 1)) v → (∀ b o, b ∉ wr → b ≠ B → s.heap.get? b = some o → h'.get? b = some o) → Rz (.ok (.ret v)) { s with heap := h', toks := tk }) →
    codeAny (model prog w) A (.builtin "max.loop" ⟨[.ref J, .none, .ref B], [(Str.ofString "default", d)]⟩) Rz s := by
  have nBw : B ∉ wr := fun z => nB (wk.sub _ z)
  intro k
  induction k with
  | zero =>
    intro j s vb c k1 k2 k3 k4 k5 k6
    have jn : j + 1 = n := by omega
    refine codeAny_builtin F.entry_max_loop ?_ ; rw [Around.under_plainId F.plain_max_loop _]
    show wpAny _ A.in1 (seqItems? (.ref B) >>= _) _ _ s
    refine wpAny_bind (wpAny_seqItems k5 rfl ?_) ; show wpAny _ A.in1 (tryCatch (pyNext (.ref J)) _ >>= _) _ _ s
    refine wpAny_bind (wpAny_tryCatch (wk.done s _ _ (jn ▸ k3) fun hz tz kz => ?_))
    have k5z := kz B _ nBw k5
    show wpAny _ A.in1 (updateSeq B (fun _ => #[]) >>= _) _ _ _
    refine wpAny_bind (wpAny_updateSeq k5z rfl (wpAny_bind (wpAny_letGo (wpAny_pure ?_))))
    exact k6 vb _ tz (by rw [← jn]; exact k4) fun b o z1 z2 e => (Heap.get?_update_other _ _ (Ne.symm z2)).trans (kz b o z1 e)
  | succ k ih =>
    intro j s vb c k1 k2 k3 k4 k5 k6
    have jn : j + 1 < n := by omega
    refine codeAny_builtin F.entry_max_loop ?_ ; rw [Around.under_plainId F.plain_max_loop _]
    show wpAny _ A.in1 (seqItems? (.ref B) >>= _) _ _ s
    refine wpAny_bind (wpAny_seqItems k5 rfl ?_) ; show wpAny _ A.in1 (tryCatch (pyNext (.ref J)) _ >>= _) _ _ s
    refine wpAny_bind (wpAny_tryCatch (wk.item (j + 1) s _ _ jn k3 fun v hz tz pz sz kz => ?_))
    have k5z := kz B _ nBw k5
    show wpAny _ A.in1 (tryCatch (holding [v, v] (richCompare .Gt v vb >>= _)) _ >>= _) _ _ _
    refine wpAny_bind (wpAny_tryCatch (wpAny_holding (wpAny_bind (cm (j + 1) (argBest bt j) v vb _ _ _ pz k4 ?_))))
    refine wpAny_bind (wpAny_holding (wpAny_truthy_bool ?_)) ; refine wpAny_bind (wpAny_letGo (wpAny_pure ?_))
    cases hb : bt (j + 1) (argBest bt j) with
    | true =>
      simp only [if_true]
      refine wpAny_bind ?_ ; refine wpAny_updateSeq k5z rfl ?_ ; refine wpAny_bind (wpAny_letGo ?_)
      rw [lname]
      refine wpAny_pure ⟨plainId_quiet F.plain_max_loop _, ih (j + 1) _ v _ (by omega) jn (wk.frame _ _ _ sz fun b z1 o e => (Heap.get?_update_other _ _ (fun z : B = b => nB (by rw [z]; exact z1))).trans e) (by simp only [argBest, hb, if_true]; exact pz) (Heap.get?_update_self _ k5z rfl) fun v2 h2 t2 p2 q2 => ?_⟩
      exact k6 v2 h2 t2 p2 fun b o z1 z2 e => q2 b o z1 z2 ((Heap.get?_update_other _ _ (Ne.symm z2)).trans (kz b o z1 e))
    | false =>
      simp only [Bool.false_eq_true, if_false]
      refine wpAny_bind (wpAny_letGo ?_)
      rw [lname]
      refine wpAny_pure ⟨plainId_quiet F.plain_max_loop _, ih (j + 1) _ vb c (by omega) jn sz (by simp only [argBest, hb, Bool.false_eq_true, if_false]; exact k4) k5z fun v2 h2 t2 p2 q2 => ?_⟩
      exact k6 v2 h2 t2 p2 fun b o z1 z2 e => q2 b o z1 z2 (kz b o z1 e)
theorem loopF (wk : Walks prog w A.in1 J fp wr n P St) (bt : Nat → Nat → Bool) (cm : CmpOf prog w A.in1 .Gt P bt) (B : Addr) (nB : B ∉ fp) {s : Shared} {c : Nat} (k3 : St 0 s.heap)
    (k5 : s.heap.get? B = some { cls := .type "list", dict := none, data := .seq #[] c, slots := #[] })
    (k0 : n = 0 → ∀ h' tk, (∀ b o, b ∉ wr → b ≠ B → s.heap.get? b = some o → h'.get? b = some o) → Rz (.ok (.ret d)) { s with heap := h', toks := tk })
    (k6 : 0 < n → ∀ v h' tk, P (argBest bt (n - 1)) v → (∀ b o, b ∉ wr → b ≠ B → s.heap.get? b = some o → h'.get? b = some o) → Rz (.ok (.ret v)) { s with heap := h', toks := tk }) :
    codeAny (model prog w) A (.builtin "max.loop" ⟨[.ref J, .none, .ref B], [(Str.ofString "default", d)]⟩) Rz s := by
  have nBw : B ∉ wr := fun z => nB (wk.sub _ z)
  refine codeAny_builtin F.entry_max_loop ?_ ; rw [Around.under_plainId F.plain_max_loop _]
  show wpAny _ A.in1 (seqItems? (.ref B) >>= _) _ _ s
  refine wpAny_bind (wpAny_seqItems k5 rfl ?_) ; show wpAny _ A.in1 (tryCatch (pyNext (.ref J)) _ >>= _) _ _ s
  by_cases hn : n = 0
  · refine wpAny_bind (wpAny_tryCatch (wk.done s _ _ (hn ▸ k3) fun hz tz kz => ?_))
    show wpAny _ A.in1 (rule _ >>= _) _ _ _
    exact wpAny_bind (wpAny_rule (wpAny_pure (k0 hn _ tz fun b o z1 z2 e => kz b o z1 e)))
  · have hn : 0 < n := by omega
    refine wpAny_bind (wpAny_tryCatch (wk.item 0 s _ _ hn k3 fun v hz tz pz sz kz => ?_))
    have k5z := kz B _ nBw k5
    show wpAny _ A.in1 (updateSeq B (fun _ => #[v, v]) >>= _) _ _ _
    refine wpAny_bind (wpAny_updateSeq k5z rfl ?_)
    rw [lname]
    refine wpAny_pure ⟨plainId_quiet F.plain_max_loop _, loopM wk bt cm B nB _ 0 _ v _ rfl hn (wk.frame _ _ _ sz fun b z1 o e => (Heap.get?_update_other _ _ (fun z : B = b => nB (by rw [z]; exact z1))).trans e) pz (Heap.get?_update_self _ k5z rfl) fun v2 h2 t2 p2 q2 => ?_⟩
    exact k6 hn v2 h2 t2 p2 fun b o z1 z2 e => q2 b o z1 z2 ((Heap.get?_update_other _ _ (Ne.symm z2)).trans (kz b o z1 e))
end
section
variable {prog : Program} {w : World} {A : Around} {E : Value → Shared → Prop} {s : Shared} {d : Value}
theorem treeK {id : String} {b : Builtin} {args : List Value} {kw : List (Str × Value)} {Q : Value → Shared → Prop} (k1 : builtinKind id = none) (k2 : plainId id = true) (k3 : entryFor table id = some b) (k4 : argsOk id ⟨args, kw⟩)
    (k5 : wpAny (model prog w) A.in1 (b ⟨args, kw⟩) (fun fin s' => match fin with
      | .done f => (match (Except.ok f : Result) with | .ok (.ret v) => Q v s' | .ok _ => False | .error e => E e s')
      | .again c2 => c2.quiet = true ∧ codeAny (model prog w) A c2 (fun r s' => match r with | .ok (.ret v) => Q v s' | .ok _ => False | .error e => E e s') s') E s) :
    wpAny (model prog w) A (call (.builtin id) args kw) Q E s := by
  refine wpAny_call (codeAny_call_builtin k2 k3 ?_) ; simp only [checkBuiltinCall, k1]
  cases q : Manifest.signature? id with
  | none => exact wpAny_pure k5
  | some sig =>
    simp only [argsOk, q] at k4
    have z : Bind.checkArgs id sig ⟨args, kw⟩ = pure () := k4
    show wpAny _ A.in1 (Bind.checkArgs id sig ⟨args, kw⟩) _ _ s ; rw [z] ; exact wpAny_pure k5
theorem callM {x : Value} {Q : Value → Shared → Prop}
    (h : wpAny (model prog w) A.in1 (pyIter x) (fun it s2 => ∃ J fp wr n P St bt, it = .ref J ∧ Walks prog w A.in1 J fp wr n P St ∧ St 0 s2.heap ∧ (∀ b ∈ fp, b < s2.heap.objs.size) ∧ CmpOf prog w A.in1 .Gt P bt ∧
      (n = 0 → ∀ h' tk, (∀ b o, b ∉ wr → s2.heap.get? b = some o → h'.get? b = some o) → Q d { s2 with heap := h', toks := tk }) ∧
      (0 < n → ∀ v h' tk, P (argBest bt (n - 1)) v → (∀ b o, b ∉ wr → s2.heap.get? b = some o → h'.get? b = some o) → Q v { s2 with heap := h', toks := tk })) E s) :
    wpAny (model prog w) A (call (.builtin "max") [x] [(Str.ofString "default", d)]) Q E s := by
  refine treeK F.kind_max F.plain_max F.entry_max (margs _ _) ?_
  show wpAny _ A.in1 (Builtin.Builtins.bindParams "max" ["key", "default"] 0 ⟨[], [(Str.ofString "default", d)]⟩ >>= _) _ _ s
  refine wpAny_bind (wpAny_of_eq (mbind d) (wpAny_bind (wpAny_pure (wpAny_bind (wpAny_mono h (fun it s2 h2 => ?_) fun _ _ e => e)))))
  obtain ⟨J, fp, wr, n, P, St, bt, rfl, wk, k3, k7, cm, q0, q1⟩ := h2
  refine wpAny_bind (wpAny_newObj_type ?_)
  have nB : s2.heap.objs.size ∉ fp := fun z => Nat.lt_irrefl _ (k7 _ z)
  rw [lname]
  refine wpAny_pure ⟨plainId_quiet F.plain_max_loop _, loopF wk bt cm s2.heap.objs.size nB (wk.frame _ _ _ k3 fun b z o e => Heap.get?_push_of_some _ e) (Heap.get?_push_size _ rfl) (fun z h' tk kz => ?_) fun z v h' tk pz kz => ?_⟩
  · exact q0 z h' tk fun b o z1 e => kz b o z1 (Nat.ne_of_lt (Heap.lt_size e)) (Heap.get?_push_of_some _ e)
  · exact q1 z v h' tk pz fun b o z1 e => kz b o z1 (Nat.ne_of_lt (Heap.lt_size e)) (Heap.get?_push_of_some _ e)
theorem intsM {l : Addr} {xs : Array (Int × Tok)} {Q : Value → Shared → Prop} (hh : A.handled = none) (hl : s.heap.IsList l (intItems xs))
    (h0 : xs.size = 0 → ∀ h' tk, (∀ b o, s.heap.get? b = some o → h'.get? b = some o) → Q d { s with heap := h', toks := tk })
    (h1 : 0 < xs.size → ∀ v h' tk, (intItems xs)[argBest (fun i j => decide (numAt xs i > numAt xs j)) (xs.size - 1)]? = some v → (∀ b o, s.heap.get? b = some o → h'.get? b = some o) → Q v { s with heap := h', toks := tk }) :
    wpAny (model prog w) A (call (.builtin "max") [.ref l] [(Str.ofString "default", d)]) Q E s := by
  refine callM (iter_intList hl fun s2 e st hfp hlI => ?_)
  subst e
  refine ⟨_, _, _, _, _, _, _, rfl, Walks.list (A := A.in1) hh _ l hlI (intItems xs), st, hfp, CmpOf.ints_gt (numAt xs) (fun _ _ => intItems_at), fun z h' tk hk => ?_, fun z v h' tk hP hk => ?_⟩
  · exact h0 (by simpa [intItems] using z) h' tk (old_kept hk)
  · exact h1 (by simpa [intItems] using z) v h' tk (by simpa [intItems] using hP) (old_kept hk)
end
end MxD

namespace HD
open PySem PySem.Spec L2
open PyProof.Rows hiding St
def maxI (k : Int) : List Int → Int
  | [] => k
  | [x] => x
  | x :: y :: r => if maxI k (y :: r) ≤ x then x else maxI k (y :: r)
theorem maxI_ok (k : Int) : ∀ ns : List Int, ns ≠ [] → maxI k ns ∈ ns ∧ ∀ y ∈ ns, y ≤ maxI k ns
  | [], h => absurd rfl h
  | [x], _ => ⟨by simp [maxI], fun y hy => by simp at hy; subst hy; exact Int.le_refl _⟩
  | x :: z :: r, _ => by
    obtain ⟨h1, h2⟩ := maxI_ok k (z :: r) (by simp)
    unfold maxI
    by_cases h : maxI k (z :: r) ≤ x
    · rw [if_pos h]
      refine ⟨by simp, fun y hy => ?_⟩
      rcases List.mem_cons.mp hy with rfl | hy
      · exact Int.le_refl _
      · exact Int.le_trans (h2 y hy) h
    · rw [if_neg h]
      refine ⟨List.mem_cons_of_mem _ h1, fun y hy => ?_⟩
      rcases List.mem_cons.mp hy with rfl | hy
      · omega
      · exact h2 y hy
theorem maxI_eq {k m : Int} {ns : List Int} (h0 : ns = [] → m = k) (h1 : ns ≠ [] → m ∈ ns ∧ ∀ y ∈ ns, y ≤ m) : m = maxI k ns := by
  by_cases e : ns = []
  · subst e; exact h0 rfl
  · obtain ⟨a, b⟩ := h1 e
    obtain ⟨c, d⟩ := maxI_ok k ns e
    exact Int.le_antisymm (d m a) (b _ c)
def fMax1 : List D → Option D
  | [.lst ds] => match toInts ds with
    | some [] => none
    | some (n :: ns) => some (.int (maxI 0 (n :: ns)))
    | none => none
  | _ => none
def fMaxD (k : Int) : List D → Option D
  | [.lst ds] => (toInts ds).map fun ns => .int (maxI k ns)
  | _ => none
section
variable {K : PySem.W.Frag}
theorem reps_ints {o : Option Addr} {G : Hp} : ∀ {ns : List Int} {vs : List V}, Reps K o G (ns.map D.int) vs → vs = ns.map V.int
  | [], vs, r => by unfold Reps at r; exact r
  | n :: ns, vs, r => by
    rw [List.map_cons] at r
    unfold Reps at r
    obtain ⟨v, t, rfl, r1, r2⟩ := r
    unfold Rep at r1
    subst r1
    rw [reps_ints r2]
    rfl
theorem a_max1 : ArD K (rMax K) fMax1 := by
  intro o G H ds vs d Q s r e q
  unfold fMax1 at e
  split at e
  case h_2 => cases e
  case h_1 xs =>
    split at e
    case h_1 => cases e
    case h_3 => cases e
    case h_2 n ns h1 =>
      cases e
      obtain ⟨v, rfl, r1⟩ := reps1 r
      have hx := toInts_eq h1
      subst hx
      unfold Rep at r1
      obtain ⟨a, us, rfl, a1, a2, a3⟩ := r1
      rw [reps_ints a3] at a1
      refine ⟨a, n :: ns, rfl, .of (s _ _ a1), by simp, fun m m1 m2 => ?_⟩
      have hm : m = maxI 0 (n :: ns) := maxI_eq (fun z => by cases z) fun _ => ⟨m1, m2⟩
      rw [hm]
      exact q _ H G (Same.refl _) (Gr.refl s) (by unfold Rep; rfl)
end
def fIntB : List D → Option D
  | [.bl b] => some (.int (if b then 1 else 0))
  | _ => none
theorem a_intb {K : PySem.W.Frag} : ArD K (fun xs H Q => (∃ i, xs = [.int i] ∧ Q (.int i) H) ∨ ∃ k : Bool, xs = [.bl k] ∧ Q (.int (if k then 1 else 0)) H) fIntB := by
  intro o G H ds vs d Q s r e q
  unfold fIntB at e
  split at e
  case h_2 => cases e
  case h_1 b =>
    cases e
    obtain ⟨v, rfl, r1⟩ := reps1 r
    unfold Rep at r1
    subst r1
    exact .inr ⟨b, rfl, q _ H G (Same.refl _) (Gr.refl s) (by unfold Rep; rfl)⟩
def rMaxDef (K : PySem.W.Frag) (k : Int) : List V → List V → Hp → VK → Prop := fun vs zs H Q => ∃ (a : Addr) (ns : List Int), vs = [.ref a] ∧ zs = [.int k] ∧ SqL K H a (ns.map V.int) ∧ Q (.int (maxI k ns)) H
section
variable {X : Cx} {W : WD}
theorem cr_maxDef {k : Int} (hc : X.calm = true) : CallRK X (.builtin "max") [Str.ofString "default"] (rMaxDef X.K k) := by
  intro pins s σ H vs zs us ws Q I r rz h
  obtain ⟨a, ns, rfl, rfl, hs, q⟩ := h
  obtain rfl := Vals.ref1 r
  obtain ⟨w1, rfl, t1, rfl⟩ := vals1 rz
  obtain ⟨its, rv, hl, _⟩ := I.list hs
  have hi := rv.ints
  obtain ⟨xs, e⟩ := hi.allInts.items
  have hn : numsOf (intItems xs).toList = ns := by rw [← e]; exact hi.numsOf
  rw [nums_intItems] at hn
  subst hn
  have hl := hl.isList
  rw [e] at hl
  refine MxD.intsM (I.ok.hd hc) hl (fun h0 h' tk hk => ?_) fun h1 v h' tk hv hk => ?_
  · refine ⟨.int k, H, I.kept hk, ⟨_, rfl⟩, ?_⟩
    have e0 : k = maxI k (List.map (·.1) xs.toList) := maxI_eq (fun _ => rfl) fun z => by
      refine absurd ?_ z
      rw [List.map_eq_nil_iff]
      exact List.length_eq_zero_iff.mp (by rw [Array.length_toList]; exact h0)
    rw [e0]
    exact q
  · obtain ⟨t, rfl⟩ := intItems_at hv
    obtain ⟨b1, b2⟩ := argBest_gt (numAt xs) (xs.size - 1)
    refine ⟨.int _, H, I.kept hk, ⟨_, rfl⟩, ?_⟩
    have e0 := maxI_eq (k := k) (m := numAt xs (argBest (fun i j => decide (numAt xs i > numAt xs j)) (xs.size - 1))) (ns := List.map (·.1) xs.toList) (fun z => by
      have := congrArg List.length z
      rw [List.length_map, Array.length_toList, List.length_nil] at this
      omega) fun _ => ⟨by rw [numAt_eq]; exact PySem.getD_mem (by rw [List.length_map, Array.length_toList]; omega), fun y hy => by
        obtain ⟨j, hj, rfl⟩ := mem_getD hy
        rw [List.length_map, Array.length_toList] at hj
        rw [← numAt_eq]; exact b2 j (by omega)⟩
    rw [e0]
    exact q
theorem de_maxD {x : Str} {p pos j kpos : Pos} {e : Expr} {k : Int} {g : EM (List D)} {i : Nat} (hc : X.calm = true) (hg : Gl X x) (hm : X.mg x = none) (hv : bootBuiltins x = some (.builtin "max")) (ha : DA X W [e] g) (hn : x ≠ "__name__" := by decide) (hdb : (x == ("__debug__" : Str)) = false := by decide)
    (he : backTo pos (starEach [e] X.env) = (false, eval e X.env) :: backTo pos (starEach [] X.env) := by rfl) (hpl : (backTo pos (starEach [e] X.env)).any (·.1) = false := by rfl) :
    DE X W (.Call (.Name x p) [e] [⟨some (Str.ofString "default"), .Constant (.int k) i j, kpos⟩] pos) (eArgs (fMaxD k) g) := by
  refine pe_imp (pe_callBK (cr_maxDef (k := k) hc) hg hm hv ha (pk_cons pe_int pk_nil) hn hdb he hpl) fun σ H Q hq => ?_
  obtain ⟨C, l, rw, G, S, hp⟩ := hq
  refine seqA (P := PEq X.K W C l σ H G Q) S hp (fun _ _ z => z) (fun z => z) fun ds rw1 vs H1 G1 S1 s1 r1 h1 => ?_
  dsimp only [PEq] at h1
  cases e3 : fMaxD k ds with
  | none => rw [e3] at h1; exact h1.elim
  | some d =>
    rw [e3] at h1
    unfold fMaxD at e3
    split at e3
    case h_2 => cases e3
    case h_1 xs =>
      cases e4 : toInts xs with
      | none => rw [e4] at e3; cases e3
      | some ns =>
        rw [e4] at e3
        cases e3
        obtain ⟨v, rfl, r2⟩ := reps1 r1
        have hx := toInts_eq e4
        subst hx
        unfold Rep at r2
        obtain ⟨a, us, rfl, a1, a2, a3⟩ := r2
        rw [reps_ints a3] at a1
        exact ⟨a, ns, rfl, rfl, .of (S1.sub _ _ a1), h1 (.int (maxI k ns)) H1 G1 S1 s1 (by unfold Rep; rfl)⟩
end
end HD
end
section
namespace HC
end HC
namespace HC
open PySem PySem.Spec L2 HD HC
open PyProof.Rows hiding St
def b_ring_in : SM := (sSeq (sFor (aRng rng1 (aCons (eArgs fLen (aCons (eV 0) aNil)) aNil)) (gN 1) (sIf (tAnd' (toB (eBin fNe (eBin fIx (eV 0) (eV 1)) (eK (.tup [.str "nothing"])))) (toB (eBin (fIn false) (eBin fIx (eV 0) (eV 1)) (eSl (eV 0) pNone (pSome (eV 1)))))) (sSeq (sSet 2 (eMeth "list" fIndex (eV 0) (aCons (eBin fIx (eV 0) (eV 1)) aNil))) (sRet (eTup (aCons (eBin fAdd (eV 2) (eK (.int 1))) (aCons (eBin fSub (eV 1) (eV 2)) aNil))))) sNext)) (sRet (eK .non)))
def d_ring_in : FD := dDef false 1 3 b_ring_in
def b_shows : SM := (sSeq (sFor (aRng rng1 (aCons (eArgs fLen (aCons (eV 0) aNil)) aNil)) (gN 1) (sIf (toB (eBin fEq (eBin fIx (eBin fIx (eV 0) (eV 1)) (eK (.int 0))) (eK (.str "there")))) (sRet (eTup (aCons (eK (.str "there")) (aCons (eBin fAdd (eV 1) (eK (.int 1))) aNil)))) sNext)) (sSeq (sSet 2 (eCall d_ring_in (aCons (eV 0) aNil))) (sSeq (sIf (toB (eUn notNonD (eV 2))) (sRet (eTup (aCons (eK (.str "ring")) (aCons (eBin fIx (eV 2) (eK (.int 0))) (aCons (eBin fIx (eV 2) (eK (.int 1))) aNil))))) sNext) (sRet (eTup (aCons (eK (.str "open")) (aCons (eArgs (fMaxD 0) (aCons (eComp (aRng rng1 (aCons (eArgs fLen (aCons (eV 0) aNil)) aNil)) (gN 1) (toB (eBin fNe (eBin fIx (eV 0) (eV 1)) (eK (.tup [.str "nothing"])))) (eBin fAdd (eV 1) (eK (.int 1))) [1]) aNil)) aNil)))))))
def d_shows : FD := dDef false 1 3 b_shows
def b_steps : SM := (sSeq (sSet 1 (eBin fAdd (eLst (aCons (eK (.int 0)) aNil)) (eComp (aItems (eV 0)) (gN 5) cYes (eIf (toB (eBin fNe (eV 5) (eK (.tup [.str "nothing"])))) (eBin fIx (eV 5) (eK (.int 1))) (eK .non)) [5]))) (sSeq (sSetO 2 (eLst aNil)) (sSeq (sFor (aRng rng2 (aCons (eK (.int 1)) (aCons (eArgs fLen (aCons (eV 1) aNil)) aNil))) (gN 3) (sSeq (sSet 4 (eTup (aCons (eBin fIx (eV 1) (eBin fSub (eV 3) (eK (.int 1)))) (aCons (eBin fIx (eV 1) (eV 3)) aNil)))) (sIf (tAnd' (toB (eBin (fIn true) (eK .non) (eV 4))) (tAnd' (toB (eBin fNe (eBin fIx (eV 4) (eK (.int 0))) (eBin fIx (eV 4) (eK (.int 1))))) (tBor 2 (toB (eBin (fIn true) (eV 4) (eV 2)))))) (sMut "list" 2 fAppend (aCons (eV 4) aNil)) sNext))) (sRetV 2))))
def d_steps : FD := dDef true 1 6 b_steps
def b__law_list : SM := (sSeq (sSet 1 (eCall d__law_web (aCons (eV 0) (aCons (eK (.int 2)) (aCons (eK (.int 6)) aNil))))) (sSeq (sSet 2 (eBin fAdd (eK (.int 1)) (eCall d__law_taken (aCons (eV 0) (aCons (eBin fSub (eBin fIx (eV 1) (eK (.int 0))) (eK (.int 1))) aNil))))) (sSeq (sSet 3 (eCall d__law_answers (aCons (eV 1) (aCons (eV 2) (aCons (eCall d__law_taken (aCons (eV 0) (aCons (eK (.int 31)) aNil))) aNil))))) (sSeq (sSet 4 (eBin fAdd (eLst (aCons (eTup (aCons (eK (.str "there")) (aCons (eV 2) aNil))) (aCons (eTup (aCons (eK (.str "nothing")) aNil)) aNil))) (eComp (aRng rng1 (aCons (eBin fIx (eV 1) (eK (.int 0))) aNil)) (gN 7) (toB (eBin fNe (eV 7) (eV 2))) (eTup (aCons (eK (.str "gone")) (aCons (eV 7) aNil))) [7]))) (sSeq (sIf (toB (eBin fEq (eCall d__law_taken (aCons (eV 0) (aCons (eK (.int 4)) aNil))) (eK (.int 3)))) (sRet (eComp (aItems (eV 3)) (gN 8) cYes (eBin fIx (eV 4) (eBin fAdd (eK (.int 1)) (eCall d__law_taken (aCons (eV 0) (aCons (eBin fSub (eArgs fLen (aCons (eV 4) aNil)) (eK (.int 1))) aNil))))) [8])) sNext) (sSeq (sFor (aRng rng1 (aCons (eBin fMul (eCall d__law_taken (aCons (eV 0) (aCons (eK (.int 3)) aNil))) (eArgs fIntB (aCons (eBin fNe (eV 3) (eLst aNil)) aNil))) aNil)) (gN 5) (sSeq (sSet 6 (eCall d__law_taken (aCons (eV 0) (aCons (eArgs fLen (aCons (eV 3) aNil)) aNil)))) (sSet 3 (eBin fAdd (eBin fAdd (eSl (eV 3) pNone (pSome (eV 6))) (eBin fIx (eLst (aCons (eLst (aCons (eTup (aCons (eK (.str "nothing")) aNil)) aNil)) (aCons (eLst (aCons (eBin fIx (eV 4) (eCall d__law_taken (aCons (eV 0) (aCons (eArgs fLen (aCons (eV 4) aNil)) aNil)))) aNil)) aNil))) (eCall d__law_taken (aCons (eV 0) (aCons (eK (.int 2)) aNil))))) (eSl (eV 3) (pSome (eBin fAdd (eV 6) (eK (.int 1)))) pNone))))) (sRet (eV 3))))))))
def d__law_list : FD := dDef false 1 9 b__law_list
def b__law_found : SM := (sSeq (sSet 1 (eComp (aRng rng1 (aCons (eArgs fLen (aCons (eV 0) aNil)) aNil)) (gN 4) (toB (eBin fEq (eBin fIx (eBin fIx (eV 0) (eV 4)) (eK (.int 0))) (eK (.str "there")))) (eBin fAdd (eV 4) (eK (.int 1))) [4])) (sSeq (sIf (toB (eBin fNe (eV 1) (eLst aNil))) (sRet (eTup (aCons (eK (.str "there")) (aCons (eBin fIx (eV 1) (eK (.int 0))) aNil)))) sNext) (sSeq (sFor (aRng rng1 (aCons (eArgs fLen (aCons (eV 0) aNil)) aNil)) (gN 2) (sFor (aRng rng1 (aCons (eV 2) aNil)) (gN 3) (sIf (tAnd' (toB (eBin fEq (eBin fIx (eV 0) (eV 3)) (eBin fIx (eV 0) (eV 2)))) (toB (eBin fNe (eBin fIx (eV 0) (eV 2)) (eTup (aCons (eK (.str "nothing")) aNil))))) (sRet (eTup (aCons (eK (.str "ring")) (aCons (eBin fAdd (eV 3) (eK (.int 1))) (aCons (eBin fSub (eV 2) (eV 3)) aNil))))) sNext))) (sRet (eTup (aCons (eK (.str "open")) (aCons (eArgs fMax1 (aCons (eBin fAdd (eLst (aCons (eK (.int 0)) aNil)) (eComp (aRng rng1 (aCons (eArgs fLen (aCons (eV 0) aNil)) aNil)) (gN 4) (toB (eBin fNe (eBin fIx (eV 0) (eV 4)) (eTup (aCons (eK (.str "nothing")) aNil)))) (eBin fAdd (eV 4) (eK (.int 1))) [4])) aNil)) aNil)))))))
def d__law_found : FD := dDef false 1 5 b__law_found
def b__law_steps : SM := (sSeq (sSet 1 (eK (.int 0))) (sSeq (sSetO 2 (eLst aNil)) (sSeq (sFor (aItems (eV 0)) (gN 3) (sSeq (sSet 4 (eIf (toB (eBin fEq (eArgs fLen (aCons (eV 3) aNil)) (eK (.int 2)))) (eBin fIx (eV 3) (eK (.int 1))) (eK .non))) (sSeq (sIf (tAnd' (toB (eUn notNonD (eV 1))) (tAnd' (toB (eUn notNonD (eV 4))) (tAnd' (toB (eBin fNe (eV 1) (eV 4))) (tBor 2 (toB (eBin (fIn true) (eTup (aCons (eV 1) (aCons (eV 4) aNil))) (eV 2))))))) (sMut "list" 2 fAppend (aCons (eTup (aCons (eV 1) (aCons (eV 4) aNil))) aNil)) sNext) (sSet 1 (eV 4))))) (sRetV 2))))
def d__law_steps : FD := dDef true 1 5 b__law_steps
end HC
namespace K04
open PySem PySem.Spec L2 HD HC
open PyProof.Rows hiding St
def b_law : SM := (sSeq (sFor (aRng rng1 (aCons (eK (.int 6)) aNil)) (gN 2) (sSeq (sSet 3 (eCall d__law_list (aCons (eV 1) aNil))) (sSeq (sSet 4 (eArgs fList (aCons (eV 3) aNil))) (sFor (aRng rng1 (aCons (eK (.int 2)) aNil)) (gN 5) (sSeq (sSetO 6 (eCall d_steps (aCons (eV 4) aNil))) (sSeq (sIf (tOr' (tNot' (toB (eCall d__law_alike (aCons (eCall d_shows (aCons (eV 4) aNil)) (aCons (eCall d__law_found (aCons (eV 3) aNil)) aNil))))) (tNot' (tBor 6 (toB (eCall d__law_alike (aCons (eV 6) (aCons (eCall d__law_steps (aCons (eV 3) aNil)) aNil))))))) (sRet (eK (.bl false))) sNext) (sSeq (sMut "list" 6 fAppend (aCons (eTup (aCons (eK (.int 7)) (aCons (eK (.int 7)) aNil))) aNil)) (sIf (toB (eBin fNe (eV 4) (eV 3))) (sRet (eK (.bl false))) sNext)))))))) (sRet (eK (.bl true))))
end K04
end
section
namespace HC
end HC
namespace HC
open PySem PySem.Spec L2 HD HC
open PyProof.Rows hiding St

end HC
namespace K05
open PySem PySem.Spec L2 HD HC
open PyProof.Rows hiding St
def b_law : SM := (sSeq (sFor (aRng rng1 (aCons (eK (.int 5)) aNil)) (gN 2) (sSeq (sSet 3 (eCall d__law_web (aCons (eV 1) (aCons (eK (.int 2)) (aCons (eK (.int 6)) aNil))))) (sFor (aRng rng2 (aCons (eK (.int 1)) (aCons (eBin fIx (eV 3) (eK (.int 0))) aNil))) (gN 4) (sSeq (sSet 5 (eCall d_answers (aCons (eV 3) (aCons (eV 4) aNil)))) (sSeq (sAsg (eCall d_walk (aCons (eV 3) (aCons (eV 4) aNil))) (gT 2 (gsCons (gN 6) (gsCons (gN 7) gsNil)))) (sSeq (sSet 8 (eCall d_shows (aCons (eV 5) aNil))) (sSeq (sIf (toB (eBin fNe (eBin fEq (eBin fIx (eV 8) (eK (.int 0))) (eK (.str "there"))) (vAnd (eBin fEq (eV 7) (eK (.str "there"))) (eBin (fIn true) (eV 4) (eBin fIx (eV 3) (eK (.int 1))))))) (sRet (eK (.bl false))) sNext) (sSeq (sIf (tAnd' (toB (eBin fEq (eBin fIx (eV 8) (eK (.int 0))) (eK (.str "there")))) (toB (eBin fNe (eBin fIx (eV 8) (eK (.int 1))) (eBin fSub (eArgs fLen (aCons (eV 6) aNil)) (eK (.int 1)))))) (sRet (eK (.bl false))) sNext) (sSeq (sSet 9 (eArgs fIsi (aCons (eV 7) (aCons (eK (.raw (.ty "int"))) aNil)))) (sSeq (sSet 10 (eIf (toB (eV 9)) (eSl (eV 6) (pSome (eV 7)) pNone) (eTup aNil))) (sSeq (sIf (tAnd' (toB (eBin fEq (eBin fIx (eV 8) (eK (.int 0))) (eK (.str "ring")))) (tOr' (tNot' (toB (eV 9))) (toB (eBin fNe (eBin fIx (eV 8) (eK (.int 2))) (eArgs fLen (aCons (eV 10) aNil)))))) (sRet (eK (.bl false))) sNext) (sSeq (sIf (tAnd' (toB (eV 9)) (tAnd' (toB (eBin fEq (eComp (aItems (eV 10)) (gN 12) (toB (eBin (fIn false) (eV 12) (eBin fIx (eV 3) (eK (.int 1))))) (eV 12) [12]) (eLst aNil))) (toB (eBin fNe (eBin fIx (eV 8) (eK (.int 0))) (eK (.str "ring")))))) (sRet (eK (.bl false))) sNext) (sSeq (sIf (toB (eBin fNe (eComp (aItems (eCall d_steps (aCons (eV 5) aNil))) (gN 11) (toB (eBin fNe (eBin fIx (eBin fIx (eBin fIx (eV 3) (eK (.int 2))) (eBin fSub (eV 4) (eK (.int 1)))) (eBin fIx (eV 11) (eK (.int 0)))) (eBin fIx (eV 11) (eK (.int 1))))) (eV 11) [11]) (eLst aNil))) (sRet (eK (.bl false))) sNext) (sIf (toB (eBin fNe (eCall d_asked (aCons (eV 3) (aCons (eV 4) (aCons (eK (.int 60)) aNil)))) (eCall d__law_asked (aCons (eV 3) (aCons (eV 4) (aCons (eK (.int 60)) aNil)))))) (sRet (eK (.bl false))) sNext)))))))))))))) (sRet (eK (.bl true))))
end K05
end
section
namespace K05
open PySem PySem.Spec L2 HD HC
open PyProof.Rows hiding St
def top (i : Nat) : Stmt := PySem.Challenge.pw_hopmark_k05_whole_returns_go_with_the_we.main.body.getD i (.Pass ⟨0, 0, 0, 0⟩)
abbrev s_is_many : Stmt := top 8
theorem sc_is_many : FnScope ["many"] ["many"] (defScope s_is_many) := ⟨rfl, rfl, rfl, by decide +kernel, rfl, by decide +kernel, by decide +kernel⟩
abbrev s_is_way : Stmt := top 9
theorem sc_is_way : FnScope ["many", "goal", "way", "post", "there"] ["many", "goal", "way"] (defScope s_is_way) := ⟨rfl, rfl, rfl, by decide +kernel, rfl, by decide +kernel, by decide +kernel⟩
abbrev s_need_web : Stmt := top 10
theorem sc_need_web : FnScope ["web", "many", "silent", "ways", "goal", "post"] ["web"] (defScope s_need_web) := ⟨rfl, rfl, rfl, by decide +kernel, rfl, by decide +kernel, by decide +kernel⟩
abbrev s_need_ask : Stmt := top 11
theorem sc_need_ask : FnScope ["many", "goal", "hops"] ["many", "goal", "hops"] (defScope s_need_ask) := ⟨rfl, rfl, rfl, by decide +kernel, rfl, by decide +kernel, by decide +kernel⟩
abbrev s_steps_to : Stmt := top 14
theorem sc_steps_to : FnScope ["many"] ["many"] (defScope s_steps_to) := ⟨rfl, rfl, rfl, by decide +kernel, rfl, by decide +kernel, by decide +kernel⟩
abbrev s_posts_on : Stmt := top 15
theorem sc_posts_on : FnScope ["way", "goal", "hops", "here", "found", "turn"] ["way", "goal", "hops"] (defScope s_posts_on) := ⟨rfl, rfl, rfl, by decide +kernel, rfl, by decide +kernel, by decide +kernel⟩
abbrev s_answer_of : Stmt := top 16
theorem sc_answer_of : FnScope ["silent", "goal", "here"] ["silent", "goal", "here"] (defScope s_answer_of) := ⟨rfl, rfl, rfl, by decide +kernel, rfl, by decide +kernel, by decide +kernel⟩
abbrev s_answers_of : Stmt := top 17
theorem sc_answers_of : FnScope ["silent", "way", "goal", "hops", "here"] ["silent", "way", "goal", "hops"] (defScope s_answers_of) := ⟨rfl, rfl, rfl, by decide +kernel, rfl, by decide +kernel, by decide +kernel⟩
abbrev s_asked : Stmt := top 18
theorem sc_asked : FnScope ["web", "goal", "hops"] ["web", "goal", "hops"] (defScope s_asked) := ⟨rfl, rfl, rfl, by decide +kernel, rfl, by decide +kernel, by decide +kernel⟩
abbrev s_answers : Stmt := top 19
theorem sc_answers : FnScope ["web", "goal"] ["web", "goal"] (defScope s_answers) := ⟨rfl, rfl, rfl, by decide +kernel, rfl, by decide +kernel, by decide +kernel⟩
abbrev s_walk : Stmt := top 20
theorem sc_walk : FnScope ["web", "goal", "way", "posts", "here"] ["web", "goal"] (defScope s_walk) := ⟨rfl, rfl, rfl, by decide +kernel, rfl, by decide +kernel, by decide +kernel⟩
abbrev s_ring_in : Stmt := top 22
theorem sc_ring_in : FnScope ["told", "late", "soon"] ["told"] (defScope s_ring_in) := ⟨rfl, rfl, rfl, by decide +kernel, rfl, by decide +kernel, by decide +kernel⟩
abbrev s_shows : Stmt := top 23
theorem sc_shows : FnScope ["told", "place", "ring"] ["told"] (defScope s_shows) := ⟨rfl, rfl, rfl, by decide +kernel, rfl, by decide +kernel, by decide +kernel⟩
abbrev s_steps : Stmt := top 24
theorem sc_steps : FnScope ["told", "names", "pairs", "k", "pair", "one"] ["told"] (defScope s_steps) := ⟨rfl, rfl, rfl, by decide +kernel, rfl, by decide +kernel, by decide +kernel⟩
abbrev s__law_taken : Stmt := top 26
theorem sc__law_taken : FnScope ["_law_row", "_law_many", "_law_cell"] ["_law_row", "_law_many"] (defScope s__law_taken) := ⟨rfl, rfl, rfl, by decide +kernel, rfl, by decide +kernel, by decide +kernel⟩
abbrev s__law_way : Stmt := top 27
theorem sc__law_way : FnScope ["_law_row", "_law_many", "_law_goal", "_law_kind", "_law_found", "_law_post", "_law_there", "_law_some"] ["_law_row", "_law_many", "_law_goal", "_law_kind"] (defScope s__law_way) := ⟨rfl, rfl, rfl, by decide +kernel, rfl, by decide +kernel, by decide +kernel⟩
abbrev s__law_web : Stmt := top 28
theorem sc__law_web : FnScope ["_law_row", "_law_least", "_law_most", "_law_many", "_law_often", "_law_silent", "_law_post", "_law_goal"] ["_law_row", "_law_least", "_law_most"] (defScope s__law_web) := ⟨rfl, rfl, rfl, by decide +kernel, rfl, by decide +kernel, by decide +kernel⟩
abbrev s__law_asked : Stmt := top 29
theorem sc__law_asked : FnScope ["_law_web_here", "_law_goal", "_law_hops", "_law_many", "_law_silent", "_law_ways", "_law_here"] ["_law_web_here", "_law_goal", "_law_hops"] (defScope s__law_asked) := ⟨rfl, rfl, rfl, by decide +kernel, rfl, by decide +kernel, by decide +kernel⟩
abbrev s_law : Stmt := top 30
theorem sc_law : FnScope ["_law_script", "_law_row", "_law_turn", "_law_web_here", "_law_goal", "_law_told", "_law_posts", "_law_end", "_law_what", "_law_goes_round", "_law_around", "_law_pair", "_law_post"] ["_law_script"] (defScope s_law) := ⟨rfl, rfl, rfl, by decide +kernel, rfl, by decide +kernel, by decide +kernel⟩
structure Tx (K : PySem.W.Frag) (mg : Str → Option Value) : Prop where
  b_int : mg "int" = none
  b_isinstance : mg "isinstance" = none
  b_len : mg "len" = none
  b_list : mg "list" = none
  b_max : mg "max" = none
  b_range : mg "range" = none
  b_set : mg "set" = none
  b_sorted : mg "sorted" = none
  b_tuple : mg "tuple" = none
  c_LEAST_MANY : ∃ t, mg "LEAST_MANY" = some (.int 2 t)
  c_MOST_HOPS : ∃ t, mg "MOST_HOPS" = some (.int 60 t)
  c_MOST_MANY : ∃ t, mg "MOST_MANY" = some (.int 6 t)
  c_NOTHING : TupC K mg "NOTHING" ["nothing"]
section
variable {P : Program} {w : World} {K : PySem.W.Frag} {mg : Str → Option Value} {base : Heap}
theorem cal_is_many (T : Tx K mg) (F : FnF K mg "is_many" s_is_many ["many"]) : Cal P w K mg base "is_many" 1 ["many"] false d_is_many := by
  exact cal_of F sc_is_many fun f cdv A outer s H E hr => (dss_one (ds_ret (de_chain op_le op_le (c_int _) (c_int _).op (de_gint rfl T.c_LEAST_MANY) (de_var (pv 0)) (de_gint rfl T.c_MOST_MANY))))
theorem cal_is_way (T : Tx K mg) (F : FnF K mg "is_way" s_is_way ["many", "goal", "way"]) : Cal P w K mg base "is_way" 1 ["many", "goal", "way"] false d_is_way := by
  exact cal_of F sc_is_way fun f cdv A outer s H E hr => (dss_cons (ds_if (PW.pt (dw_or (dt_op (op_neD hr.units) c_ne.op (de_bi call_len a_len (by rfl) T.b_len (by decide +kernel) (da_cons (de_var (pv 2)) da_nil)) (de_var (pv 0)) (nomark _)) (dw_or1 (dt_notN (de_ix ix_seq o_ix (de_var (pv 2)) (de_var (pv 1)) (fun _ _ => rfl)))))) (dss_one (ds_ret de_bl)) dss_nil) (dss_cons (ds_for PassesOwn.never rfl (di_rng1 rfl T.b_range (da_cons (de_var (pv 0)) da_nil)) (dg_name (i := 3) sc_is_way.nd rfl (by first | exact Or.inl rfl | exact Or.inr rfl)) (dss_cons (ds_set (i := 4) sc_is_way.nd rfl (by first | exact Or.inl rfl | exact Or.inr rfl) (de_ix ix_seq o_ix (de_var (pv 2)) (de_var (pv 3)) (fun _ _ => rfl))) (dss_one (ds_if (PW.pt (dw_and (dt_notN (de_var (pv 4))) (dw_and1 (PW.pt (dw_or (dt_not (dt_chain op_le op_lt (c_int _) (c_int _).op de_int (de_var (pv 4)) (de_var (pv 0)))) (dw_or1 (dt_op (op_eqD hr.units) c_eq.op (de_var (pv 4)) (de_var (pv 3)) (nomark _)))))))) (dss_one (ds_ret de_bl)) dss_nil)))) (dss_one (ds_ret de_bl))))
theorem cal_need_web (T : Tx K mg) (F : FnF K mg "need_web" s_need_web ["web"]) (C_is_many : Cal P w K mg base "is_many" 1 ["many"] false d_is_many) (C_is_way : Cal P w K mg base "is_way" 1 ["many", "goal", "way"] false d_is_way) : Cal P w K mg base "need_web" 2 ["web"] false d_need_web := by
  exact cal_of F sc_need_web fun f cdv A outer s H E hr => (dss_cons (ds_asg (de_var (pv 0)) (dg_tup rfl (dgs_cons (dg_name (i := 1) sc_need_web.nd rfl (by first | exact Or.inl rfl | exact Or.inr rfl)) (dgs_cons (dg_name (i := 2) sc_need_web.nd rfl (by first | exact Or.inl rfl | exact Or.inr rfl)) (dgs_cons (dg_name (i := 3) sc_need_web.nd rfl (by first | exact Or.inl rfl | exact Or.inr rfl)) dgs_nil))))) (dss_cons (ds_if (dt_not (dt_of (C_is_many.de (hr.mono (by decide)) (by rfl) (da_cons (de_var (pv 1)) da_nil)))) (dss_one ds_never) dss_nil) (dss_cons (ds_if (PW.pt (dw_or (dt_op (op_neD hr.units) c_ne.op (de_of (do_bt call_list_of a_list (by rfl) T.b_list (by decide +kernel) (da_cons (de_var (pv 2)) da_nil))) (de_of (do_sortSet (pe_callB (cr_sortedSet rfl) (by rfl) T.b_sorted (by decide +kernel) (pa_cons (pe_callTy (cr_setT rfl) (by rfl) T.b_set (by decide +kernel) (pa_cons (de_var (pv 2)) pa_nil)) pa_nil)))) (nomark _)) (dw_or1 (dt_op (op_neD hr.units) c_ne.op (de_of (do_lc rfl sc_need_web.nd (ow := [("post", 5)]) (di_seq (de_var (pv 2))) (blkOk_by (N := ["web", "many", "silent", "ways", "goal", "post"]) (sc := defScope s_need_web) (by decide +kernel)) (by decide) (fun _ _ _ _ _ => (dg_name (i := 5) sc_need_web.nd rfl (by first | exact Or.inl rfl | exact Or.inr rfl))) (fun _ _ _ _ _ => (dts_one (dt_not (dt_chain op_le op_lt (c_int _) (c_int _).op de_int (de_var (pv 5)) (de_var (pv 1)))))) (fun _ _ _ _ _ => (de_var (pv 5))))) (de_of (do_lst da_nil)) (nomark _))))) (dss_one ds_never) dss_nil) (dss_cons (ds_if (dt_op (op_neD hr.units) c_ne.op (de_bi call_len a_len (by rfl) T.b_len (by decide +kernel) (da_cons (de_var (pv 3)) da_nil)) (de_op op_sub o_sub (de_var (pv 1)) de_int) (nomark _)) (dss_one ds_never) dss_nil) (dss_one (ds_for PassesOwn.never rfl (di_rng2 rfl T.b_range (da_cons de_int (da_cons (de_var (pv 1)) da_nil))) (dg_name (i := 4) sc_need_web.nd rfl (by first | exact Or.inl rfl | exact Or.inr rfl)) (dss_one (ds_if (dt_not (dt_of (C_is_way.de (hr.mono (by decide)) (by rfl) (da_cons (de_var (pv 1)) (da_cons (de_var (pv 4)) (da_cons (de_ix ix_seq o_ix (de_var (pv 3)) (de_op op_sub o_sub (de_var (pv 4)) de_int) (fun _ _ => rfl)) da_nil)))))) (dss_one ds_never) dss_nil))))))))
theorem cal_need_ask (T : Tx K mg) (F : FnF K mg "need_ask" s_need_ask ["many", "goal", "hops"]) : Cal P w K mg base "need_ask" 1 ["many", "goal", "hops"] false d_need_ask := by
  exact cal_of F sc_need_ask fun f cdv A outer s H E hr => (dss_one (ds_if (PW.pt (dw_or (dt_not (dt_chain op_le op_lt (c_int _) (c_int _).op de_int (de_var (pv 1)) (de_var (pv 0)))) (dw_or1 (dt_not (dt_chain op_le op_le (c_int _) (c_int _).op de_int (de_var (pv 2)) (de_gint rfl T.c_MOST_HOPS)))))) (dss_one ds_never) dss_nil))
theorem cal_steps_to (T : Tx K mg) (F : FnF K mg "steps_to" s_steps_to ["many"]) : Cal P w K mg base "steps_to" 1 ["many"] false d_steps_to := by
  exact cal_of F sc_steps_to fun f cdv A outer s H E hr => (dss_one (ds_ret (de_op op_mul2 o_mul de_int (de_var (pv 0)))))
theorem cal_posts_on (T : Tx K mg) (F : FnF K mg "posts_on" s_posts_on ["way", "goal", "hops"]) : Cal P w K mg base "posts_on" 1 ["way", "goal", "hops"] true d_posts_on := by
  exact cal_of F sc_posts_on fun f cdv A outer s H E hr => (dss_cons (ds_set (i := 3) sc_posts_on.nd rfl (by first | exact Or.inl rfl | exact Or.inr rfl) de_int) (dss_cons (ds_setO (i := 4) sc_posts_on.nd rfl (by first | exact Or.inl rfl | exact Or.inr rfl) (do_lst da_nil)) (dss_cons (ds_for PassesOwn.never rfl (di_rng1 rfl T.b_range (da_cons (de_var (pv 2)) da_nil)) (dg_name (i := 5) sc_posts_on.nd rfl (by first | exact Or.inl rfl | exact Or.inr rfl)) (dss_cons (ds_if (PW.pt (dw_and (dt_notN (de_var (pv 3))) (dw_and1 (dt_op (op_neD hr.units) c_ne.op (de_var (pv 3)) (de_var (pv 1)) (nomark _))))) (dss_one (ds_set (i := 3) sc_posts_on.nd rfl (by first | exact Or.inl rfl | exact Or.inr rfl) (de_ix ix_seq o_ix (de_var (pv 0)) (de_var (pv 3)) (fun _ _ => rfl)))) dss_nil) (dss_one (ds_mut (ps_expr (pe_bm PySem.F.plainAttrs_list PySem.F.slot_list_append PySem.F.type_list_append mt_append (pv 4) (da_cons (de_var (pv 3)) da_nil))) mut_append)))) (dss_one (ds_retV (pv 4))))))
theorem cal_answer_of (T : Tx K mg) (F : FnF K mg "answer_of" s_answer_of ["silent", "goal", "here"]) : Cal P w K mg base "answer_of" 1 ["silent", "goal", "here"] false d_answer_of := by
  exact cal_of F sc_answer_of fun f cdv A outer s H E hr => (dss_cons (ds_if (PW.pt (dw_or (dt_isN (de_var (pv 2))) (dw_or1 (dt_op (op_in2 (hu65 hr)) c_in.op (de_var (pv 2)) (de_var (pv 0)) (by rfl))))) (dss_one (ds_ret (de_gtup (zs := ["nothing"]) rfl T.c_NOTHING))) dss_nil) (dss_one (ds_ret (de_tup (da_cons (de_if (dt_op (op_eqD hr.units) c_eq.op (de_var (pv 2)) (de_var (pv 1)) (nomark _)) de_str de_str) (da_cons (de_var (pv 2)) da_nil))))))
theorem cal_answers_of (T : Tx K mg) (F : FnF K mg "answers_of" s_answers_of ["silent", "way", "goal", "hops"]) (C_posts_on : Cal P w K mg base "posts_on" 1 ["way", "goal", "hops"] true d_posts_on) (C_answer_of : Cal P w K mg base "answer_of" 1 ["silent", "goal", "here"] false d_answer_of) : Cal P w K mg base "answers_of" 2 ["silent", "way", "goal", "hops"] true d_answers_of := by
  exact cal_of F sc_answers_of fun f cdv A outer s H E hr => (dss_one (ds_retO (do_lc rfl sc_answers_of.nd (ow := [("here", 4)]) (di_seq (de_of (C_posts_on.do (hr.mono (by decide)) (by rfl) (da_cons (de_var (pv 1)) (da_cons (de_var (pv 2)) (da_cons (de_var (pv 3)) da_nil)))))) (blkOk_by (N := ["silent", "way", "goal", "hops", "here"]) (sc := defScope s_answers_of) (by decide +kernel)) (by decide) (fun _ _ _ _ _ => (dg_name (i := 4) sc_answers_of.nd rfl (by first | exact Or.inl rfl | exact Or.inr rfl))) (fun _ _ _ _ _ => dts_nil) (fun _ _ _ _ _ => (C_answer_of.de (hr.mono (by decide)) (by rfl) (da_cons (de_var (pv 0)) (da_cons (de_var (pv 2)) (da_cons (de_var (pv 4)) da_nil))))))))
theorem cal_asked (T : Tx K mg) (F : FnF K mg "asked" s_asked ["web", "goal", "hops"]) (C_need_web : Cal P w K mg base "need_web" 2 ["web"] false d_need_web) (C_need_ask : Cal P w K mg base "need_ask" 1 ["many", "goal", "hops"] false d_need_ask) (C_answers_of : Cal P w K mg base "answers_of" 2 ["silent", "way", "goal", "hops"] true d_answers_of) : Cal P w K mg base "asked" 3 ["web", "goal", "hops"] false d_asked := by
  exact cal_of F sc_asked fun f cdv A outer s H E hr => (dss_cons (ds_expr (C_need_web.de (hr.mono (by decide)) (by rfl) (da_cons (de_var (pv 0)) da_nil))) (dss_cons (ds_expr (C_need_ask.de (hr.mono (by decide)) (by rfl) (da_cons (de_ix ix_seq o_ix (de_var (pv 0)) de_int (fun _ _ => rfl)) (da_cons (de_var (pv 1)) (da_cons (de_var (pv 2)) da_nil))))) (dss_one (ds_ret (de_ix ix_seq o_ix (de_of (C_answers_of.do (hr.mono (by decide)) (by rfl) (da_cons (de_ix ix_seq o_ix (de_var (pv 0)) de_int (fun _ _ => rfl)) (da_cons (de_ix ix_seq o_ix (de_ix ix_seq o_ix (de_var (pv 0)) de_int (fun _ _ => rfl)) (de_op op_sub o_sub (de_var (pv 1)) de_int) (fun _ _ => rfl)) (da_cons (de_var (pv 1)) (da_cons (de_var (pv 2)) da_nil)))))) (de_un un_neg u_neg de_int) (fun _ _ => rfl))))))
theorem cal_answers (T : Tx K mg) (F : FnF K mg "answers" s_answers ["web", "goal"]) (C_need_web : Cal P w K mg base "need_web" 2 ["web"] false d_need_web) (C_need_ask : Cal P w K mg base "need_ask" 1 ["many", "goal", "hops"] false d_need_ask) (C_steps_to : Cal P w K mg base "steps_to" 1 ["many"] false d_steps_to) (C_answers_of : Cal P w K mg base "answers_of" 2 ["silent", "way", "goal", "hops"] true d_answers_of) : Cal P w K mg base "answers" 3 ["web", "goal"] true d_answers := by
  exact cal_of F sc_answers fun f cdv A outer s H E hr => (dss_cons (ds_expr (C_need_web.de (hr.mono (by decide)) (by rfl) (da_cons (de_var (pv 0)) da_nil))) (dss_cons (ds_expr (C_need_ask.de (hr.mono (by decide)) (by rfl) (da_cons (de_ix ix_seq o_ix (de_var (pv 0)) de_int (fun _ _ => rfl)) (da_cons (de_var (pv 1)) (da_cons de_int da_nil))))) (dss_one (ds_retO (C_answers_of.do (hr.mono (by decide)) (by rfl) (da_cons (de_ix ix_seq o_ix (de_var (pv 0)) de_int (fun _ _ => rfl)) (da_cons (de_ix ix_seq o_ix (de_ix ix_seq o_ix (de_var (pv 0)) de_int (fun _ _ => rfl)) (de_op op_sub o_sub (de_var (pv 1)) de_int) (fun _ _ => rfl)) (da_cons (de_var (pv 1)) (da_cons (C_steps_to.de (hr.mono (by decide)) (by rfl) (da_cons (de_ix ix_seq o_ix (de_var (pv 0)) de_int (fun _ _ => rfl)) da_nil)) da_nil)))))))))
theorem cal_walk (T : Tx K mg) (F : FnF K mg "walk" s_walk ["web", "goal"]) (C_need_web : Cal P w K mg base "need_web" 2 ["web"] false d_need_web) (C_need_ask : Cal P w K mg base "need_ask" 1 ["many", "goal", "hops"] false d_need_ask) : Cal P w K mg base "walk" 3 ["web", "goal"] false d_walk := by
  exact cal_of F sc_walk fun f cdv A outer s H E hr => (dss_cons (ds_expr (C_need_web.de (hr.mono (by decide)) (by rfl) (da_cons (de_var (pv 0)) da_nil))) (dss_cons (ds_expr (C_need_ask.de (hr.mono (by decide)) (by rfl) (da_cons (de_ix ix_seq o_ix (de_var (pv 0)) de_int (fun _ _ => rfl)) (da_cons (de_var (pv 1)) (da_cons de_int da_nil))))) (dss_cons (ds_set (i := 2) sc_walk.nd rfl (by first | exact Or.inl rfl | exact Or.inr rfl) (de_ix ix_seq o_ix (de_ix ix_seq o_ix (de_var (pv 0)) de_int (fun _ _ => rfl)) (de_op op_sub o_sub (de_var (pv 1)) de_int) (fun _ _ => rfl))) (dss_cons (ds_setO (i := 3) sc_walk.nd rfl (by first | exact Or.inl rfl | exact Or.inr rfl) (do_lst (da_cons de_int da_nil))) (dss_one (ds_while 1000 PassesOwn.never (dt_of de_bl) (dss_cons (ds_set (i := 4) sc_walk.nd rfl (by first | exact Or.inl rfl | exact Or.inr rfl) (de_bor (i := 3) (de_ix ix_seq o_ix (de_var (pv 2)) (de_ix ix_seq o_ix (de_var (pv 3)) (de_un un_neg u_neg de_int) (fun _ _ => rfl)) (fun _ _ => rfl)))) (dss_cons (ds_if (dt_isN (de_var (pv 4))) (dss_one (ds_ret (de_tup (da_cons (de_tupO (pe_callTy call_tuple_of (by rfl) T.b_tuple (by decide +kernel) (pa_cons (pv 3) pa_nil))) (da_cons de_str da_nil))))) dss_nil) (dss_cons (ds_if (dt_op (op_eqD hr.units) c_eq.op (de_var (pv 4)) (de_var (pv 1)) (nomark _)) (dss_one (ds_ret (de_tup (da_cons (de_bt call_tuple_of a_tuple (by rfl) T.b_tuple (by decide +kernel) (da_cons (de_catO (pe_op op_cat (pv 3) (de_of (do_lst (da_cons (de_var (pv 1)) da_nil))))) da_nil)) (da_cons de_str da_nil))))) dss_nil) (dss_cons (ds_if (dt_bor (i := 3) (dt_op (op_in2 (hu65 hr)) c_in.op (de_var (pv 4)) (de_var (pv 3)) (by rfl))) (dss_one (ds_ret (de_tup (da_cons (de_tupO (pe_callTy call_tuple_of (by rfl) T.b_tuple (by decide +kernel) (pa_cons (pv 3) pa_nil))) (da_cons (de_bor (i := 3) (de_meth (pe_bm PySem.F.plainAttrs_list PySem.F.slot_list_index PySem.F.type_list_index (mt_indexD (hu65 hr)) (de_var (pv 3)) (da_cons (de_var (pv 4)) da_nil)) m_index)) da_nil))))) dss_nil) (dss_one (ds_mut (ps_expr (pe_bm PySem.F.plainAttrs_list PySem.F.slot_list_append PySem.F.type_list_append mt_append (pv 3) (da_cons (de_var (pv 4)) da_nil))) mut_append))))))))))))
theorem cal_ring_in (T : Tx K mg) (F : FnF K mg "ring_in" s_ring_in ["told"]) : Cal P w K mg base "ring_in" 1 ["told"] false d_ring_in := by
  exact cal_of F sc_ring_in fun f cdv A outer s H E hr => (dss_cons (ds_for PassesOwn.never rfl (di_rng1 rfl T.b_range (da_cons (de_bi call_len a_len (by rfl) T.b_len (by decide +kernel) (da_cons (de_var (pv 0)) da_nil)) da_nil)) (dg_name (i := 1) sc_ring_in.nd rfl (by first | exact Or.inl rfl | exact Or.inr rfl)) (dss_one (ds_if (PW.pt (dw_and (dt_op (op_neD hr.units) c_ne.op (de_ix ix_seq o_ix (de_var (pv 0)) (de_var (pv 1)) (fun _ _ => rfl)) (de_gtup (zs := ["nothing"]) rfl T.c_NOTHING) (nomark _)) (dw_and1 (dt_op (op_in2 (hu65 hr)) c_in.op (de_ix ix_seq o_ix (de_var (pv 0)) (de_var (pv 1)) (fun _ _ => rfl)) (de_sl (de_var (pv 0)) dp_none (dp_some (de_var (pv 1)))) (by rfl))))) (dss_cons (ds_set (i := 2) sc_ring_in.nd rfl (by first | exact Or.inl rfl | exact Or.inr rfl) (de_meth (pe_bm PySem.F.plainAttrs_list PySem.F.slot_list_index PySem.F.type_list_index (mt_indexD (hu65 hr)) (de_var (pv 0)) (da_cons (de_ix ix_seq o_ix (de_var (pv 0)) (de_var (pv 1)) (fun _ _ => rfl)) da_nil)) m_index)) (dss_one (ds_ret (de_tup (da_cons (de_op op_add4 o_add (de_var (pv 2)) de_int) (da_cons (de_op op_sub o_sub (de_var (pv 1)) (de_var (pv 2))) da_nil)))))) dss_nil))) (dss_one (ds_ret de_non)))
theorem cal_shows (T : Tx K mg) (F : FnF K mg "shows" s_shows ["told"]) (C_ring_in : Cal P w K mg base "ring_in" 1 ["told"] false d_ring_in) : Cal P w K mg base "shows" 2 ["told"] false d_shows := by
  exact cal_of F sc_shows fun f cdv A outer s H E hr => (dss_cons (ds_for PassesOwn.never rfl (di_rng1 rfl T.b_range (da_cons (de_bi call_len a_len (by rfl) T.b_len (by decide +kernel) (da_cons (de_var (pv 0)) da_nil)) da_nil)) (dg_name (i := 1) sc_shows.nd rfl (by first | exact Or.inl rfl | exact Or.inr rfl)) (dss_one (ds_if (dt_op (op_eqD hr.units) c_eq.op (de_ix ix_seq o_ix (de_ix ix_seq o_ix (de_var (pv 0)) (de_var (pv 1)) (fun _ _ => rfl)) de_int (fun _ _ => rfl)) de_str (nomark _)) (dss_one (ds_ret (de_tup (da_cons de_str (da_cons (de_op op_add4 o_add (de_var (pv 1)) de_int) da_nil))))) dss_nil))) (dss_cons (ds_set (i := 2) sc_shows.nd rfl (by first | exact Or.inl rfl | exact Or.inr rfl) (C_ring_in.de (hr.mono (by decide)) (by rfl) (da_cons (de_var (pv 0)) da_nil))) (dss_cons (ds_if (dt_notN (de_var (pv 2))) (dss_one (ds_ret (de_tup (da_cons de_str (da_cons (de_ix ix_seq o_ix (de_var (pv 2)) de_int (fun _ _ => rfl)) (da_cons (de_ix ix_seq o_ix (de_var (pv 2)) de_int (fun _ _ => rfl)) da_nil)))))) dss_nil) (dss_one (ds_ret (de_tup (da_cons de_str (da_cons (de_maxD rfl (by rfl) T.b_max (by decide +kernel) (da_cons (de_of (do_lc rfl sc_shows.nd (ow := [("place", 1)]) (di_rng1 rfl T.b_range (da_cons (de_bi call_len a_len (by rfl) T.b_len (by decide +kernel) (da_cons (de_var (pv 0)) da_nil)) da_nil)) (blkOk_by (N := ["told", "place", "ring"]) (sc := defScope s_shows) (by decide +kernel)) (by decide) (fun _ _ _ _ _ => (dg_name (i := 1) sc_shows.nd rfl (by first | exact Or.inl rfl | exact Or.inr rfl))) (fun _ _ _ _ _ => (dts_one (dt_op (op_neD hr.units) c_ne.op (de_ix ix_seq o_ix (de_var (pv 0)) (de_var (pv 1)) (fun _ _ => rfl)) (de_gtup (zs := ["nothing"]) rfl T.c_NOTHING) (nomark _)))) (fun _ _ _ _ _ => (de_op op_add4 o_add (de_var (pv 1)) de_int)))) da_nil)) da_nil))))))))
theorem cal_steps (T : Tx K mg) (F : FnF K mg "steps" s_steps ["told"]) : Cal P w K mg base "steps" 1 ["told"] true d_steps := by
  exact cal_of F sc_steps fun f cdv A outer s H E hr => (dss_cons (ds_set (i := 1) sc_steps.nd rfl (by first | exact Or.inl rfl | exact Or.inr rfl) (de_op op_add4 o_add (de_of (do_lst (da_cons de_int da_nil))) (de_of (do_lc rfl sc_steps.nd (ow := [("one", 5)]) (di_seq (de_var (pv 0))) (blkOk_by (N := ["told", "names", "pairs", "k", "pair", "one"]) (sc := defScope s_steps) (by decide +kernel)) (by decide) (fun _ _ _ _ _ => (dg_name (i := 5) sc_steps.nd rfl (by first | exact Or.inl rfl | exact Or.inr rfl))) (fun _ _ _ _ _ => dts_nil) (fun _ _ _ _ _ => (de_if (dt_op (op_neD hr.units) c_ne.op (de_var (pv 5)) (de_gtup (zs := ["nothing"]) rfl T.c_NOTHING) (nomark _)) (de_ix ix_seq o_ix (de_var (pv 5)) de_int (fun _ _ => rfl)) de_non)))))) (dss_cons (ds_setO (i := 2) sc_steps.nd rfl (by first | exact Or.inl rfl | exact Or.inr rfl) (do_lst da_nil)) (dss_cons (ds_for PassesOwn.never rfl (di_rng2 rfl T.b_range (da_cons de_int (da_cons (de_bi call_len a_len (by rfl) T.b_len (by decide +kernel) (da_cons (de_var (pv 1)) da_nil)) da_nil))) (dg_name (i := 3) sc_steps.nd rfl (by first | exact Or.inl rfl | exact Or.inr rfl)) (dss_cons (ds_set (i := 4) sc_steps.nd rfl (by first | exact Or.inl rfl | exact Or.inr rfl) (de_tup (da_cons (de_ix ix_seq o_ix (de_var (pv 1)) (de_op op_sub o_sub (de_var (pv 3)) de_int) (fun _ _ => rfl)) (da_cons (de_ix ix_seq o_ix (de_var (pv 1)) (de_var (pv 3)) (fun _ _ => rfl)) da_nil)))) (dss_one (ds_if (PW.pt (dw_and (dt_op (op_notIn2 (hu65 hr)) c_notIn.op de_non (de_var (pv 4)) (by rfl)) (dw_and (dt_op (op_neD hr.units) c_ne.op (de_ix ix_seq o_ix (de_var (pv 4)) de_int (fun _ _ => rfl)) (de_ix ix_seq o_ix (de_var (pv 4)) de_int (fun _ _ => rfl)) (nomark _)) (dw_and1 (dt_bor (i := 2) (dt_op (op_notIn2 (hu65 hr)) c_notIn.op (de_var (pv 4)) (de_var (pv 2)) (by rfl))))))) (dss_one (ds_mut (ps_expr (pe_bm PySem.F.plainAttrs_list PySem.F.slot_list_append PySem.F.type_list_append mt_append (pv 2) (da_cons (de_var (pv 4)) da_nil))) mut_append)) dss_nil)))) (dss_one (ds_retV (pv 2))))))
theorem cal__law_taken (T : Tx K mg) (F : FnF K mg "_law_taken" s__law_taken ["_law_row", "_law_many"]) : Cal P w K mg base "_law_taken" 1 ["_law_row", "_law_many"] false d__law_taken := by
  exact cal_of F sc__law_taken fun f cdv A outer s H E hr => (dss_cons (ds_row (ps_asg (de_op op_add4 o_add (de_row (pe_ix ix_list (pv 0) pe_int (fun _ _ => rfl))) de_int) (pg_sub (pv 0) pe_int set_list))) (dss_cons (ds_if (dt_op op_gt (c_int _).op (de_row (pe_ix ix_list (pv 0) pe_int (fun _ _ => rfl))) (de_bi call_len a_len (by rfl) T.b_len (by decide +kernel) (da_cons (de_row (pe_ix ix_list (pv 0) pe_int (fun _ _ => rfl))) da_nil)) (nomark _)) (dss_cons (ds_row (ps_asg (de_op op_mod o_mod (de_op op_add4 o_add (de_op op_mul2 o_mul (de_row (pe_ix ix_list (pv 0) pe_int (fun _ _ => rfl))) de_int) de_int) de_int) (pg_sub (pv 0) pe_int set_list))) (dss_one (ds_ret (de_op op_mod o_mod (de_op op_fdiv o_fdiv (de_row (pe_ix ix_list (pv 0) pe_int (fun _ _ => rfl))) de_int) (de_var (pv 1)))))) dss_nil) (dss_cons (ds_set (i := 2) sc__law_taken.nd rfl (by first | exact Or.inl rfl | exact Or.inr rfl) (de_ix ix_seq o_ix (de_row (pe_ix ix_list (pv 0) pe_int (fun _ _ => rfl))) (de_op op_sub o_sub (de_row (pe_ix ix_list (pv 0) pe_int (fun _ _ => rfl))) de_int) (fun _ _ => rfl))) (dss_cons (ds_row (ps_asg (de_op op_mod o_mod (de_op op_add4 o_add (de_op op_add4 o_add (de_op op_mul2 o_mul (de_row (pe_ix ix_list (pv 0) pe_int (fun _ _ => rfl))) de_int) (de_var (pv 2))) de_int) de_int) (pg_sub (pv 0) pe_int set_list))) (dss_one (ds_ret (de_op op_mod o_mod (de_var (pv 2)) (de_var (pv 1)))))))))
theorem cal__law_way (T : Tx K mg) (F : FnF K mg "_law_way" s__law_way ["_law_row", "_law_many", "_law_goal", "_law_kind"]) (C__law_taken : Cal P w K mg base "_law_taken" 1 ["_law_row", "_law_many"] false d__law_taken) : Cal P w K mg base "_law_way" 2 ["_law_row", "_law_many", "_law_goal", "_law_kind"] false d__law_way := by
  exact cal_of F sc__law_way fun f cdv A outer s H E hr => (dss_cons (ds_setO (i := 4) sc__law_way.nd rfl (by first | exact Or.inl rfl | exact Or.inr rfl) (do_lst da_nil)) (dss_cons (ds_for PassesOwn.never rfl (di_rng1 rfl T.b_range (da_cons (de_var (pv 1)) da_nil)) (dg_name (i := 5) sc__law_way.nd rfl (by first | exact Or.inl rfl | exact Or.inr rfl)) (dss_cons (ds_setLc (i := 7) rfl sc__law_way.nd rfl rfl (sw_true rfl rfl rfl (by decide +kernel)) (ow := [("_law_there", 6)]) (di_rng1 rfl T.b_range (da_cons (de_var (pv 1)) da_nil)) (blkOk_by (N := ["_law_row", "_law_many", "_law_goal", "_law_kind", "_law_found", "_law_post", "_law_there", "_law_some"]) (sc := defScope s__law_way) (by decide +kernel)) (by decide) (fun _ _ _ _ _ => (dg_name (i := 6) sc__law_way.nd rfl (by first | exact Or.inl rfl | exact Or.inr rfl))) (fun _ _ _ _ _ => (dts_one (dt_op (op_neD hr.units) c_ne.op (de_var (pv 6)) (de_var (pv 5)) (nomark _)))) (fun _ _ _ _ _ => (de_var (pv 6)))) (dss_cons (ds_set (i := 6) sc__law_way.nd rfl (by first | exact Or.inl rfl | exact Or.inr rfl) (de_ix ix_seq o_ix (de_var (pv 7)) (C__law_taken.de (hr.mono (by decide)) (by rfl) (da_cons (de_var (pv 0)) (da_cons (de_bi call_len a_len (by rfl) T.b_len (by decide +kernel) (da_cons (de_var (pv 7)) da_nil)) da_nil))) (fun _ _ => rfl))) (dss_cons (ds_if (PW.pt (dw_or (PW.pt (dw_and (dt_op (op_eqD hr.units) c_eq.op (de_var (pv 3)) de_int (nomark _)) (dw_and1 (dt_op (op_eqD hr.units) c_eq.op (C__law_taken.de (hr.mono (by decide)) (by rfl) (da_cons (de_var (pv 0)) (da_cons de_int da_nil))) de_int (nomark _))))) (dw_or1 (PW.pt (dw_and (dt_op (op_eqD hr.units) c_eq.op (de_var (pv 3)) de_int (nomark _)) (dw_and1 (dt_op (op_eqD hr.units) c_eq.op (C__law_taken.de (hr.mono (by decide)) (by rfl) (da_cons (de_var (pv 0)) (da_cons de_int da_nil))) de_int (nomark _)))))))) (dss_one (ds_set (i := 6) sc__law_way.nd rfl (by first | exact Or.inl rfl | exact Or.inr rfl) de_non)) dss_nil) (dss_cons (ds_if (PW.pt (dw_and (dt_op (op_eqD hr.units) c_eq.op (de_var (pv 3)) de_int (nomark _)) (dw_and1 (dt_op op_gt (c_int _).op (C__law_taken.de (hr.mono (by decide)) (by rfl) (da_cons (de_var (pv 0)) (da_cons de_int da_nil))) de_int (nomark _))))) (dss_one (ds_set (i := 6) sc__law_way.nd rfl (by first | exact Or.inl rfl | exact Or.inr rfl) (de_op op_mod o_mod (de_op op_add4 o_add (de_var (pv 5)) de_int) (de_var (pv 1))))) dss_nil) (dss_one (ds_mut (ps_expr (pe_bm PySem.F.plainAttrs_list PySem.F.slot_list_append PySem.F.type_list_append mt_append (pv 4) (da_cons (de_if (dt_op (op_eqD hr.units) c_eq.op (de_var (pv 5)) (de_var (pv 2)) (nomark _)) de_non (de_var (pv 6))) da_nil))) mut_append))))))) (dss_one (ds_ret (de_tupO (pe_callTy call_tuple_of (by rfl) T.b_tuple (by decide +kernel) (pa_cons (pv 4) pa_nil)))))))
theorem cal__law_web (T : Tx K mg) (F : FnF K mg "_law_web" s__law_web ["_law_row", "_law_least", "_law_most"]) (C__law_taken : Cal P w K mg base "_law_taken" 1 ["_law_row", "_law_many"] false d__law_taken) (C__law_way : Cal P w K mg base "_law_way" 2 ["_law_row", "_law_many", "_law_goal", "_law_kind"] false d__law_way) : Cal P w K mg base "_law_web" 3 ["_law_row", "_law_least", "_law_most"] false d__law_web := by
  exact cal_of F sc__law_web fun f cdv A outer s H E hr => (dss_cons (ds_set (i := 3) sc__law_web.nd rfl (by first | exact Or.inl rfl | exact Or.inr rfl) (de_op op_add4 o_add (de_var (pv 1)) (C__law_taken.de (hr.mono (by decide)) (by rfl) (da_cons (de_var (pv 0)) (da_cons (de_op op_add4 o_add (de_op op_sub o_sub (de_var (pv 2)) (de_var (pv 1))) de_int) da_nil))))) (dss_cons (ds_set (i := 4) sc__law_web.nd rfl (by first | exact Or.inl rfl | exact Or.inr rfl) (de_ix ix_seq o_ix (de_of (do_lst (da_cons de_int (da_cons de_int (da_cons de_int da_nil))))) (C__law_taken.de (hr.mono (by decide)) (by rfl) (da_cons (de_var (pv 0)) (da_cons de_int da_nil))) (fun _ _ => rfl))) (dss_cons (ds_setLc (i := 5) rfl sc__law_web.nd rfl rfl (sw_true rfl rfl rfl (by decide +kernel)) (ow := [("_law_post", 6)]) (di_rng2 rfl T.b_range (da_cons de_int (da_cons (de_var (pv 3)) da_nil))) (blkOk_by (N := ["_law_row", "_law_least", "_law_most", "_law_many", "_law_often", "_law_silent", "_law_post", "_law_goal"]) (sc := defScope s__law_web) (by decide +kernel)) (by decide) (fun _ _ _ _ _ => (dg_name (i := 6) sc__law_web.nd rfl (by first | exact Or.inl rfl | exact Or.inr rfl))) (fun _ _ _ _ _ => (dts_one (dt_op (op_eqD hr.units) c_eq.op (C__law_taken.de (hr.mono (by decide)) (by rfl) (da_cons (de_var (pv 0)) (da_cons (de_var (pv 4)) da_nil))) de_int (nomark _)))) (fun _ _ _ _ _ => (de_var (pv 6)))) (dss_one (ds_ret (de_tup (da_cons (de_var (pv 3)) (da_cons (de_bt call_tuple_of a_tuple (by rfl) T.b_tuple (by decide +kernel) (da_cons (de_var (pv 5)) da_nil)) (da_cons (de_bt call_tuple_of a_tuple (by rfl) T.b_tuple (by decide +kernel) (da_cons (de_of (do_lc rfl sc__law_web.nd (ow := [("_law_goal", 7)]) (di_rng2 rfl T.b_range (da_cons de_int (da_cons (de_var (pv 3)) da_nil))) (blkOk_by (N := ["_law_row", "_law_least", "_law_most", "_law_many", "_law_often", "_law_silent", "_law_post", "_law_goal"]) (sc := defScope s__law_web) (by decide +kernel)) (by decide) (fun _ _ _ _ _ => (dg_name (i := 7) sc__law_web.nd rfl (by first | exact Or.inl rfl | exact Or.inr rfl))) (fun _ _ _ _ _ => dts_nil) (fun _ _ _ _ _ => (C__law_way.de (hr.mono (by decide)) (by rfl) (da_cons (de_var (pv 0)) (da_cons (de_var (pv 3)) (da_cons (de_var (pv 7)) (da_cons (C__law_taken.de (hr.mono (by decide)) (by rfl) (da_cons (de_var (pv 0)) (da_cons de_int da_nil))) da_nil)))))))) da_nil)) da_nil)))))))))
theorem cal__law_asked (T : Tx K mg) (F : FnF K mg "_law_asked" s__law_asked ["_law_web_here", "_law_goal", "_law_hops"]) : Cal P w K mg base "_law_asked" 1 ["_law_web_here", "_law_goal", "_law_hops"] false d__law_asked := by
  exact cal_of F sc__law_asked fun f cdv A outer s H E hr => (dss_cons (ds_asg (de_var (pv 0)) (dg_tup rfl (dgs_cons (dg_name (i := 3) sc__law_asked.nd rfl (by first | exact Or.inl rfl | exact Or.inr rfl)) (dgs_cons (dg_name (i := 4) sc__law_asked.nd rfl (by first | exact Or.inl rfl | exact Or.inr rfl)) (dgs_cons (dg_name (i := 5) sc__law_asked.nd rfl (by first | exact Or.inl rfl | exact Or.inr rfl)) dgs_nil))))) (dss_cons (ds_set (i := 6) sc__law_asked.nd rfl (by first | exact Or.inl rfl | exact Or.inr rfl) de_int) (dss_cons (ds_while 1000 PassesOwn.never (PW.pt (dw_and (dt_op op_gt (c_int _).op (de_var (pv 2)) de_int (nomark _)) (dw_and (dt_notN (de_var (pv 6))) (dw_and1 (dt_op (op_neD hr.units) c_ne.op (de_var (pv 6)) (de_var (pv 1)) (nomark _)))))) (dss_cons (ds_set (i := 6) sc__law_asked.nd rfl (by first | exact Or.inl rfl | exact Or.inr rfl) (de_ix ix_seq o_ix (de_ix ix_seq o_ix (de_var (pv 5)) (de_op op_sub o_sub (de_var (pv 1)) de_int) (fun _ _ => rfl)) (de_var (pv 6)) (fun _ _ => rfl))) (dss_one (ds_set (i := 2) sc__law_asked.nd rfl (by first | exact Or.inl rfl | exact Or.inr rfl) (de_op op_sub o_sub (de_var (pv 2)) de_int))))) (dss_cons (ds_if (PW.pt (dw_or (dt_isN (de_var (pv 6))) (dw_or1 (dt_op (op_in2 (hu65 hr)) c_in.op (de_var (pv 6)) (de_var (pv 4)) (by rfl))))) (dss_one (ds_ret (de_tup (da_cons de_str da_nil)))) dss_nil) (dss_one (ds_ret (de_if (dt_op (op_eqD hr.units) c_eq.op (de_var (pv 6)) (de_var (pv 1)) (nomark _)) (de_tup (da_cons de_str (da_cons (de_var (pv 1)) da_nil))) (de_tup (da_cons de_str (da_cons (de_var (pv 6)) da_nil))))))))))
def pureLaw : Prop := ∀ ns : List Int, ns.length ≤ 63 → ∃ l' rw', b_law (.val (.scr ns) :: .val .row :: List.replicate 11 .no) (some ⟨ns, 0, 0⟩) = .ok (.ret (.bl true), l', rw')
theorem ok_law {f : Addr} {fd : FuncData} (T : Tx K mg) (F : FunD K "law" "law" (defArgs s_law) (defBody s_law) (defScope s_law) [] [] f fd) (C__law_web : Cal P w K mg base "_law_web" 3 ["_law_row", "_law_least", "_law_most"] false d__law_web) (C_answers : Cal P w K mg base "answers" 3 ["web", "goal"] true d_answers) (C_walk : Cal P w K mg base "walk" 3 ["web", "goal"] false d_walk) (C_shows : Cal P w K mg base "shows" 2 ["told"] false d_shows) (C_steps : Cal P w K mg base "steps" 1 ["told"] true d_steps) (C_asked : Cal P w K mg base "asked" 3 ["web", "goal", "hops"] false d_asked) (C__law_asked : Cal P w K mg base "_law_asked" 1 ["_law_web_here", "_law_goal", "_law_hops"] false d__law_asked) (hp : pureLaw) : FnOk P w K mg base CXF 4 f fd ["_law_script"] (spL K) := by
  refine law_ok F sc_law (s0 := _) (rest := _) (den := b_law) rfl (by decide) (fun cdv A outer s H E => ?_) (fun cdv A outer s H E hr => ?_) hp
  · exact ps_set (i := 1) sc_law.nd rfl (by first | exact Or.inl rfl | exact Or.inr rfl) (pe_lst (pa_cons (pv 0) (pa_cons pe_int (pa_cons pe_int pa_nil))))
  · exact (dss_cons (ds_for PassesOwn.never rfl (di_rng1 rfl T.b_range (da_cons de_int da_nil)) (dg_name (i := 2) sc_law.nd rfl (by first | exact Or.inl rfl | exact Or.inr rfl)) (dss_cons (ds_set (i := 3) sc_law.nd rfl (by first | exact Or.inl rfl | exact Or.inr rfl) (C__law_web.de (hr.mono (by decide)) (by rfl) (da_cons (de_var (pv 1)) (da_cons de_int (da_cons de_int da_nil))))) (dss_one (ds_for PassesOwn.never rfl (di_rng2 rfl T.b_range (da_cons de_int (da_cons (de_ix ix_seq o_ix (de_var (pv 3)) de_int (fun _ _ => rfl)) da_nil))) (dg_name (i := 4) sc_law.nd rfl (by first | exact Or.inl rfl | exact Or.inr rfl)) (dss_cons (ds_set (i := 5) sc_law.nd rfl (by first | exact Or.inl rfl | exact Or.inr rfl) (de_of (C_answers.do (hr.mono (by decide)) (by rfl) (da_cons (de_var (pv 3)) (da_cons (de_var (pv 4)) da_nil))))) (dss_cons (ds_asg (C_walk.de (hr.mono (by decide)) (by rfl) (da_cons (de_var (pv 3)) (da_cons (de_var (pv 4)) da_nil))) (dg_tup rfl (dgs_cons (dg_name (i := 6) sc_law.nd rfl (by first | exact Or.inl rfl | exact Or.inr rfl)) (dgs_cons (dg_name (i := 7) sc_law.nd rfl (by first | exact Or.inl rfl | exact Or.inr rfl)) dgs_nil)))) (dss_cons (ds_set (i := 8) sc_law.nd rfl (by first | exact Or.inl rfl | exact Or.inr rfl) (C_shows.de (hr.mono (by decide)) (by rfl) (da_cons (de_var (pv 5)) da_nil))) (dss_cons (ds_if (dt_op (op_neD hr.units) c_ne.op (de_cmp (op_eqD hr.units) c_eq.op (de_ix ix_seq o_ix (de_var (pv 8)) de_int (fun _ _ => rfl)) de_str (nomark _)) (de_and (de_cmp (op_eqD hr.units) c_eq.op (de_var (pv 7)) de_str (nomark _)) (de_one (de_cmp (op_notIn2 (hu65 hr)) c_notIn.op (de_var (pv 4)) (de_ix ix_seq o_ix (de_var (pv 3)) de_int (fun _ _ => rfl)) (by rfl)))) (nomark _)) (dss_one (ds_ret de_bl)) dss_nil) (dss_cons (ds_if (PW.pt (dw_and (dt_op (op_eqD hr.units) c_eq.op (de_ix ix_seq o_ix (de_var (pv 8)) de_int (fun _ _ => rfl)) de_str (nomark _)) (dw_and1 (dt_op (op_neD hr.units) c_ne.op (de_ix ix_seq o_ix (de_var (pv 8)) de_int (fun _ _ => rfl)) (de_op op_sub o_sub (de_bi call_len a_len (by rfl) T.b_len (by decide +kernel) (da_cons (de_var (pv 6)) da_nil)) de_int) (nomark _))))) (dss_one (ds_ret de_bl)) dss_nil) (dss_cons (ds_set (i := 9) sc_law.nd rfl (by first | exact Or.inl rfl | exact Or.inr rfl) (de_bi call_isi a_isi (by rfl) T.b_isinstance (by decide +kernel) (da_cons (de_var (pv 7)) (da_cons (de_gty (by rfl) T.b_int (by decide +kernel)) da_nil)))) (dss_cons (ds_set (i := 10) sc_law.nd rfl (by first | exact Or.inl rfl | exact Or.inr rfl) (de_if (dt_of (de_var (pv 9))) (de_sl (de_var (pv 6)) (dp_some (de_var (pv 7))) dp_none) (de_tup da_nil))) (dss_cons (ds_if (PW.pt (dw_and (dt_op (op_eqD hr.units) c_eq.op (de_ix ix_seq o_ix (de_var (pv 8)) de_int (fun _ _ => rfl)) de_str (nomark _)) (dw_and1 (PW.pt (dw_or (dt_not (dt_of (de_var (pv 9)))) (dw_or1 (dt_op (op_neD hr.units) c_ne.op (de_ix ix_seq o_ix (de_var (pv 8)) de_int (fun _ _ => rfl)) (de_bi call_len a_len (by rfl) T.b_len (by decide +kernel) (da_cons (de_var (pv 10)) da_nil)) (nomark _)))))))) (dss_one (ds_ret de_bl)) dss_nil) (dss_cons (ds_if (PW.pt (dw_and (dt_of (de_var (pv 9))) (dw_and (dt_op (op_eqD hr.units) c_eq.op (de_of (do_lc rfl sc_law.nd (ow := [("_law_post", 12)]) (di_seq (de_var (pv 10))) (blkOk_by (N := ["_law_script", "_law_row", "_law_turn", "_law_web_here", "_law_goal", "_law_told", "_law_posts", "_law_end", "_law_what", "_law_goes_round", "_law_around", "_law_pair", "_law_post"]) (sc := defScope s_law) (by decide +kernel)) (by decide) (fun _ _ _ _ _ => (dg_name (i := 12) sc_law.nd rfl (by first | exact Or.inl rfl | exact Or.inr rfl))) (fun _ _ _ _ _ => (dts_one (dt_op (op_in2 (hu65 hr)) c_in.op (de_var (pv 12)) (de_ix ix_seq o_ix (de_var (pv 3)) de_int (fun _ _ => rfl)) (by rfl)))) (fun _ _ _ _ _ => (de_var (pv 12))))) (de_of (do_lst da_nil)) (nomark _)) (dw_and1 (dt_op (op_neD hr.units) c_ne.op (de_ix ix_seq o_ix (de_var (pv 8)) de_int (fun _ _ => rfl)) de_str (nomark _)))))) (dss_one (ds_ret de_bl)) dss_nil) (dss_cons (ds_if (dt_op (op_neD hr.units) c_ne.op (de_of (do_lc rfl sc_law.nd (ow := [("_law_pair", 11)]) (di_seq (de_of (C_steps.do (hr.mono (by decide)) (by rfl) (da_cons (de_var (pv 5)) da_nil)))) (blkOk_by (N := ["_law_script", "_law_row", "_law_turn", "_law_web_here", "_law_goal", "_law_told", "_law_posts", "_law_end", "_law_what", "_law_goes_round", "_law_around", "_law_pair", "_law_post"]) (sc := defScope s_law) (by decide +kernel)) (by decide) (fun _ _ _ _ _ => (dg_name (i := 11) sc_law.nd rfl (by first | exact Or.inl rfl | exact Or.inr rfl))) (fun _ _ _ _ _ => (dts_one (dt_op (op_neD hr.units) c_ne.op (de_ix ix_seq o_ix (de_ix ix_seq o_ix (de_ix ix_seq o_ix (de_var (pv 3)) de_int (fun _ _ => rfl)) (de_op op_sub o_sub (de_var (pv 4)) de_int) (fun _ _ => rfl)) (de_ix ix_seq o_ix (de_var (pv 11)) de_int (fun _ _ => rfl)) (fun _ _ => rfl)) (de_ix ix_seq o_ix (de_var (pv 11)) de_int (fun _ _ => rfl)) (nomark _)))) (fun _ _ _ _ _ => (de_var (pv 11))))) (de_of (do_lst da_nil)) (nomark _)) (dss_one (ds_ret de_bl)) dss_nil) (dss_one (ds_if (dt_op (op_neD hr.units) c_ne.op (C_asked.de (hr.mono (by decide)) (by rfl) (da_cons (de_var (pv 3)) (da_cons (de_var (pv 4)) (da_cons de_int da_nil)))) (C__law_asked.de (hr.mono (by decide)) (by rfl) (da_cons (de_var (pv 3)) (da_cons (de_var (pv 4)) (da_cons de_int da_nil)))) (nomark _)) (dss_one (ds_ret de_bl)) dss_nil)))))))))))))))) (dss_one (ds_ret de_bl)))
end
end K05
end
section
namespace K05
open PySem PySem.Spec L2 HD HC
open PyProof.Rows hiding St
def dd : List He.DefD := [⟨("is_many", none), "is_many", "is_many", defArgs s_is_many, defBody s_is_many, defScope s_is_many, [], []⟩,
  ⟨("is_way", none), "is_way", "is_way", defArgs s_is_way, defBody s_is_way, defScope s_is_way, [], []⟩,
  ⟨("need_web", none), "need_web", "need_web", defArgs s_need_web, defBody s_need_web, defScope s_need_web, [], []⟩,
  ⟨("need_ask", none), "need_ask", "need_ask", defArgs s_need_ask, defBody s_need_ask, defScope s_need_ask, [], []⟩,
  ⟨("steps_to", none), "steps_to", "steps_to", defArgs s_steps_to, defBody s_steps_to, defScope s_steps_to, [], []⟩,
  ⟨("posts_on", none), "posts_on", "posts_on", defArgs s_posts_on, defBody s_posts_on, defScope s_posts_on, [], []⟩,
  ⟨("answer_of", none), "answer_of", "answer_of", defArgs s_answer_of, defBody s_answer_of, defScope s_answer_of, [], []⟩,
  ⟨("answers_of", none), "answers_of", "answers_of", defArgs s_answers_of, defBody s_answers_of, defScope s_answers_of, [], []⟩,
  ⟨("asked", none), "asked", "asked", defArgs s_asked, defBody s_asked, defScope s_asked, [], []⟩,
  ⟨("answers", none), "answers", "answers", defArgs s_answers, defBody s_answers, defScope s_answers, [], []⟩,
  ⟨("walk", none), "walk", "walk", defArgs s_walk, defBody s_walk, defScope s_walk, [], []⟩,
  ⟨("ring_in", none), "ring_in", "ring_in", defArgs s_ring_in, defBody s_ring_in, defScope s_ring_in, [], []⟩,
  ⟨("shows", none), "shows", "shows", defArgs s_shows, defBody s_shows, defScope s_shows, [], []⟩,
  ⟨("steps", none), "steps", "steps", defArgs s_steps, defBody s_steps, defScope s_steps, [], []⟩,
  ⟨("_law_taken", none), "_law_taken", "_law_taken", defArgs s__law_taken, defBody s__law_taken, defScope s__law_taken, [], []⟩,
  ⟨("_law_way", none), "_law_way", "_law_way", defArgs s__law_way, defBody s__law_way, defScope s__law_way, [], []⟩,
  ⟨("_law_web", none), "_law_web", "_law_web", defArgs s__law_web, defBody s__law_web, defScope s__law_web, [], []⟩,
  ⟨("_law_asked", none), "_law_asked", "_law_asked", defArgs s__law_asked, defBody s__law_asked, defScope s__law_asked, [], []⟩,
  ⟨("law", none), "law", "law", defArgs s_law, defBody s_law, defScope s_law, [], []⟩]
def ff : List He.Fa := [.glo "is_many", .glo "is_way", .glo "need_web", .glo "need_ask", .glo "steps_to", .glo "posts_on", .glo "answer_of", .glo "answers_of", .glo "asked", .glo "answers", .glo "walk", .glo "ring_in", .glo "shows", .glo "steps", .glo "_law_taken", .glo "_law_way", .glo "_law_web", .glo "_law_asked", .glo "law", .free "int", .free "isinstance", .free "len", .free "list", .free "max", .free "range", .free "set", .free "sorted", .free "tuple", .int "LEAST_MANY" 2, .int "MOST_HOPS" 60, .int "MOST_MANY" 6, .glo "NOTHING"]
abbrev Rr : PySem.W.OpenRow := PySem.W.OpenLaw.row PySem.Challenge.rw_hopmark_k05_whole_returns_go_with_the_we
def ex (K : PySem.W.Frag) : Bool := He.tupB K "NOTHING" [.str "nothing"]
abbrev hk : PySem.W.Hook := HD.hookC 4 ff dd ex
def ob (s : PySem.W.SharedT) : HD.AlC := HD.obC 4 ff dd ex (HandSHeadRun.getT s)
theorem ob_eq (s : PySem.W.SharedT) : ob s = hk.obs s.abs := HD.obC_eq (HandSHeadRun.getT_eq s)
theorem run (w : World) : HandSHeadRun.RunEq Rr (PySem.W.view Rr.prog [30]) hk ob 4000 ((["HopError", "BadWeb", "BadAsk", "LEAST_MANY", "MOST_MANY", "MOST_HOPS", "is_many", "is_way", "need_web", "need_ask", "NOTHING", "steps_to", "posts_on", "answer_of", "answers_of", "asked", "answers", "walk", "ring_in", "shows", "steps", "_law_taken", "_law_way", "_law_web", "_law_asked"] : List Str)) w := by
  intro os
  kernel_rfl
theorem facts (hp : pureLaw) {P : Program} {w : World} {K : PySem.W.Frag} {h : Heap} {mg : Str → Option Value} {f : Addr} (X : K.In h) (G : h.Ns mainGlobals mg) (hfa : mg ("law" : Str) = some (.ref f)) (c : He.SaysD ff dd K) (ce : ex K = true) :
    ∃ fd : FuncData, (∀ (s : Shared) (v : Value), BindsTo s fd ⟨[v], []⟩ [("_law_script", v)]) ∧ ∀ base : Heap, K.In base → base.Ns mainGlobals mg → FnOk P w K mg base CXF 4 f fd ["_law_script"] (spL K) := by
  have T : Tx K mg := ⟨He.free_ok X G (c.fact 19 (f := .free "int") rfl), He.free_ok X G (c.fact 20 (f := .free "isinstance") rfl), He.free_ok X G (c.fact 21 (f := .free "len") rfl), He.free_ok X G (c.fact 22 (f := .free "list") rfl), He.free_ok X G (c.fact 23 (f := .free "max") rfl), He.free_ok X G (c.fact 24 (f := .free "range") rfl), He.free_ok X G (c.fact 25 (f := .free "set") rfl), He.free_ok X G (c.fact 26 (f := .free "sorted") rfl), He.free_ok X G (c.fact 27 (f := .free "tuple") rfl), He.int_ok X G (c.fact 28 (f := .int "LEAST_MANY" 2) rfl), He.int_ok X G (c.fact 29 (f := .int "MOST_HOPS" 60) rfl), He.int_ok X G (c.fact 30 (f := .int "MOST_MANY" 6) rfl), tupC_of X G (c.fact 31 (f := .glo "NOTHING") rfl) (zs := ["nothing"]) ce (by decide)⟩
  have F_is_many : FnF K mg "is_many" s_is_many ["many"] := by
    obtain ⟨fd, F⟩ := c.def_ 0 (d := dd[0]'(by decide)) rfl
    exact ⟨_, fd, F, He.glo_ok X G (c.fact 0 (f := .glo "is_many") rfl), FunD.bindsN F fun _ _ _ _ _ _ us hl => match us, hl with | [_], _ => rfl⟩
  have F_is_way : FnF K mg "is_way" s_is_way ["many", "goal", "way"] := by
    obtain ⟨fd, F⟩ := c.def_ 1 (d := dd[1]'(by decide)) rfl
    exact ⟨_, fd, F, He.glo_ok X G (c.fact 1 (f := .glo "is_way") rfl), FunD.bindsN F fun _ _ _ _ _ _ us hl => match us, hl with | [_, _, _], _ => rfl⟩
  have F_need_web : FnF K mg "need_web" s_need_web ["web"] := by
    obtain ⟨fd, F⟩ := c.def_ 2 (d := dd[2]'(by decide)) rfl
    exact ⟨_, fd, F, He.glo_ok X G (c.fact 2 (f := .glo "need_web") rfl), FunD.bindsN F fun _ _ _ _ _ _ us hl => match us, hl with | [_], _ => rfl⟩
  have F_need_ask : FnF K mg "need_ask" s_need_ask ["many", "goal", "hops"] := by
    obtain ⟨fd, F⟩ := c.def_ 3 (d := dd[3]'(by decide)) rfl
    exact ⟨_, fd, F, He.glo_ok X G (c.fact 3 (f := .glo "need_ask") rfl), FunD.bindsN F fun _ _ _ _ _ _ us hl => match us, hl with | [_, _, _], _ => rfl⟩
  have F_steps_to : FnF K mg "steps_to" s_steps_to ["many"] := by
    obtain ⟨fd, F⟩ := c.def_ 4 (d := dd[4]'(by decide)) rfl
    exact ⟨_, fd, F, He.glo_ok X G (c.fact 4 (f := .glo "steps_to") rfl), FunD.bindsN F fun _ _ _ _ _ _ us hl => match us, hl with | [_], _ => rfl⟩
  have F_posts_on : FnF K mg "posts_on" s_posts_on ["way", "goal", "hops"] := by
    obtain ⟨fd, F⟩ := c.def_ 5 (d := dd[5]'(by decide)) rfl
    exact ⟨_, fd, F, He.glo_ok X G (c.fact 5 (f := .glo "posts_on") rfl), FunD.bindsN F fun _ _ _ _ _ _ us hl => match us, hl with | [_, _, _], _ => rfl⟩
  have F_answer_of : FnF K mg "answer_of" s_answer_of ["silent", "goal", "here"] := by
    obtain ⟨fd, F⟩ := c.def_ 6 (d := dd[6]'(by decide)) rfl
    exact ⟨_, fd, F, He.glo_ok X G (c.fact 6 (f := .glo "answer_of") rfl), FunD.bindsN F fun _ _ _ _ _ _ us hl => match us, hl with | [_, _, _], _ => rfl⟩
  have F_answers_of : FnF K mg "answers_of" s_answers_of ["silent", "way", "goal", "hops"] := by
    obtain ⟨fd, F⟩ := c.def_ 7 (d := dd[7]'(by decide)) rfl
    exact ⟨_, fd, F, He.glo_ok X G (c.fact 7 (f := .glo "answers_of") rfl), FunD.bindsN F fun _ _ _ _ _ _ us hl => match us, hl with | [_, _, _, _], _ => rfl⟩
  have F_asked : FnF K mg "asked" s_asked ["web", "goal", "hops"] := by
    obtain ⟨fd, F⟩ := c.def_ 8 (d := dd[8]'(by decide)) rfl
    exact ⟨_, fd, F, He.glo_ok X G (c.fact 8 (f := .glo "asked") rfl), FunD.bindsN F fun _ _ _ _ _ _ us hl => match us, hl with | [_, _, _], _ => rfl⟩
  have F_answers : FnF K mg "answers" s_answers ["web", "goal"] := by
    obtain ⟨fd, F⟩ := c.def_ 9 (d := dd[9]'(by decide)) rfl
    exact ⟨_, fd, F, He.glo_ok X G (c.fact 9 (f := .glo "answers") rfl), FunD.bindsN F fun _ _ _ _ _ _ us hl => match us, hl with | [_, _], _ => rfl⟩
  have F_walk : FnF K mg "walk" s_walk ["web", "goal"] := by
    obtain ⟨fd, F⟩ := c.def_ 10 (d := dd[10]'(by decide)) rfl
    exact ⟨_, fd, F, He.glo_ok X G (c.fact 10 (f := .glo "walk") rfl), FunD.bindsN F fun _ _ _ _ _ _ us hl => match us, hl with | [_, _], _ => rfl⟩
  have F_ring_in : FnF K mg "ring_in" s_ring_in ["told"] := by
    obtain ⟨fd, F⟩ := c.def_ 11 (d := dd[11]'(by decide)) rfl
    exact ⟨_, fd, F, He.glo_ok X G (c.fact 11 (f := .glo "ring_in") rfl), FunD.bindsN F fun _ _ _ _ _ _ us hl => match us, hl with | [_], _ => rfl⟩
  have F_shows : FnF K mg "shows" s_shows ["told"] := by
    obtain ⟨fd, F⟩ := c.def_ 12 (d := dd[12]'(by decide)) rfl
    exact ⟨_, fd, F, He.glo_ok X G (c.fact 12 (f := .glo "shows") rfl), FunD.bindsN F fun _ _ _ _ _ _ us hl => match us, hl with | [_], _ => rfl⟩
  have F_steps : FnF K mg "steps" s_steps ["told"] := by
    obtain ⟨fd, F⟩ := c.def_ 13 (d := dd[13]'(by decide)) rfl
    exact ⟨_, fd, F, He.glo_ok X G (c.fact 13 (f := .glo "steps") rfl), FunD.bindsN F fun _ _ _ _ _ _ us hl => match us, hl with | [_], _ => rfl⟩
  have F__law_taken : FnF K mg "_law_taken" s__law_taken ["_law_row", "_law_many"] := by
    obtain ⟨fd, F⟩ := c.def_ 14 (d := dd[14]'(by decide)) rfl
    exact ⟨_, fd, F, He.glo_ok X G (c.fact 14 (f := .glo "_law_taken") rfl), FunD.bindsN F fun _ _ _ _ _ _ us hl => match us, hl with | [_, _], _ => rfl⟩
  have F__law_way : FnF K mg "_law_way" s__law_way ["_law_row", "_law_many", "_law_goal", "_law_kind"] := by
    obtain ⟨fd, F⟩ := c.def_ 15 (d := dd[15]'(by decide)) rfl
    exact ⟨_, fd, F, He.glo_ok X G (c.fact 15 (f := .glo "_law_way") rfl), FunD.bindsN F fun _ _ _ _ _ _ us hl => match us, hl with | [_, _, _, _], _ => rfl⟩
  have F__law_web : FnF K mg "_law_web" s__law_web ["_law_row", "_law_least", "_law_most"] := by
    obtain ⟨fd, F⟩ := c.def_ 16 (d := dd[16]'(by decide)) rfl
    exact ⟨_, fd, F, He.glo_ok X G (c.fact 16 (f := .glo "_law_web") rfl), FunD.bindsN F fun _ _ _ _ _ _ us hl => match us, hl with | [_, _, _], _ => rfl⟩
  have F__law_asked : FnF K mg "_law_asked" s__law_asked ["_law_web_here", "_law_goal", "_law_hops"] := by
    obtain ⟨fd, F⟩ := c.def_ 17 (d := dd[17]'(by decide)) rfl
    exact ⟨_, fd, F, He.glo_ok X G (c.fact 17 (f := .glo "_law_asked") rfl), FunD.bindsN F fun _ _ _ _ _ _ us hl => match us, hl with | [_, _, _], _ => rfl⟩
  obtain ⟨fd, F⟩ := c.def_ 18 (d := dd[18]'(by decide)) rfl
  have e := hfa.symm.trans (He.glo_ok X G (c.fact 18 (f := .glo "law") rfl))
  cases e
  refine ⟨fd, fun s v => FunD.bindsA (ps := ["_law_script"]) F (fun _ _ _ _ _ _ us hl => match us, hl with | [_], _ => rfl) s [v] rfl, fun base _ _ => ?_⟩
  have C_is_many : Cal P w K mg base "is_many" 1 ["many"] false d_is_many := cal_is_many T F_is_many
  have C_is_way : Cal P w K mg base "is_way" 1 ["many", "goal", "way"] false d_is_way := cal_is_way T F_is_way
  have C_need_web : Cal P w K mg base "need_web" 2 ["web"] false d_need_web := cal_need_web T F_need_web C_is_many C_is_way
  have C_need_ask : Cal P w K mg base "need_ask" 1 ["many", "goal", "hops"] false d_need_ask := cal_need_ask T F_need_ask
  have C_steps_to : Cal P w K mg base "steps_to" 1 ["many"] false d_steps_to := cal_steps_to T F_steps_to
  have C_posts_on : Cal P w K mg base "posts_on" 1 ["way", "goal", "hops"] true d_posts_on := cal_posts_on T F_posts_on
  have C_answer_of : Cal P w K mg base "answer_of" 1 ["silent", "goal", "here"] false d_answer_of := cal_answer_of T F_answer_of
  have C_answers_of : Cal P w K mg base "answers_of" 2 ["silent", "way", "goal", "hops"] true d_answers_of := cal_answers_of T F_answers_of C_posts_on C_answer_of
  have C_asked : Cal P w K mg base "asked" 3 ["web", "goal", "hops"] false d_asked := cal_asked T F_asked C_need_web C_need_ask C_answers_of
  have C_answers : Cal P w K mg base "answers" 3 ["web", "goal"] true d_answers := cal_answers T F_answers C_need_web C_need_ask C_steps_to C_answers_of
  have C_walk : Cal P w K mg base "walk" 3 ["web", "goal"] false d_walk := cal_walk T F_walk C_need_web C_need_ask
  have C_ring_in : Cal P w K mg base "ring_in" 1 ["told"] false d_ring_in := cal_ring_in T F_ring_in
  have C_shows : Cal P w K mg base "shows" 2 ["told"] false d_shows := cal_shows T F_shows C_ring_in
  have C_steps : Cal P w K mg base "steps" 1 ["told"] true d_steps := cal_steps T F_steps
  have C__law_taken : Cal P w K mg base "_law_taken" 1 ["_law_row", "_law_many"] false d__law_taken := cal__law_taken T F__law_taken
  have C__law_way : Cal P w K mg base "_law_way" 2 ["_law_row", "_law_many", "_law_goal", "_law_kind"] false d__law_way := cal__law_way T F__law_way C__law_taken
  have C__law_web : Cal P w K mg base "_law_web" 3 ["_law_row", "_law_least", "_law_most"] false d__law_web := cal__law_web T F__law_web C__law_taken C__law_way
  have C__law_asked : Cal P w K mg base "_law_asked" 1 ["_law_web_here", "_law_goal", "_law_hops"] false d__law_asked := cal__law_asked T F__law_asked
  exact ok_law T F C__law_web C_answers C_walk C_shows C_steps C_asked C__law_asked hp
end K05
end
section
namespace HC
end HC
namespace HC
open PySem PySem.Spec L2 HD HC
open PyProof.Rows hiding St
def b_parting_of : SM := (sSeq (sSet 2 (eCall d_steps_to (aCons (eBin fIx (eV 0) (eK (.int 0))) aNil))) (sSeq (sFor (aRng rng2 (aCons (eK (.int 1)) (aCons (eBin fIx (eV 0) (eK (.int 0))) aNil))) (gN 3) (sSeq (sSet 4 (eCall d_answers_of (aCons (eBin fIx (eV 0) (eK (.int 1))) (aCons (eBin fIx (eBin fIx (eV 0) (eK (.int 2))) (eBin fSub (eV 3) (eK (.int 1)))) (aCons (eV 3) (aCons (eV 2) aNil)))))) (sSeq (sSet 5 (eCall d_answers_of (aCons (eBin fIx (eV 1) (eK (.int 1))) (aCons (eBin fIx (eBin fIx (eV 1) (eK (.int 2))) (eBin fSub (eV 3) (eK (.int 1)))) (aCons (eV 3) (aCons (eV 2) aNil)))))) (sFor (aRng rng1 (aCons (eV 2) aNil)) (gN 6) (sIf (toB (eBin fNe (eBin fIx (eV 4) (eV 6)) (eBin fIx (eV 5) (eV 6)))) (sRet (eTup (aCons (eV 3) (aCons (eBin fAdd (eV 6) (eK (.int 1))) aNil)))) sNext))))) (sRet (eK .non))))
def d_parting_of : FD := dDef false 2 7 b_parting_of
def b_parting : SM := (sSeq (sExpr (eCall d_need_web (aCons (eV 0) aNil))) (sSeq (sExpr (eCall d_need_web (aCons (eV 1) aNil))) (sSeq (sIf (toB (eBin fNe (eBin fIx (eV 0) (eK (.int 0))) (eBin fIx (eV 1) (eK (.int 0))))) (sRet (eTup (aCons (eArgs fMin2 (aCons (eBin fIx (eV 0) (eK (.int 0))) (aCons (eBin fIx (eV 1) (eK (.int 0))) aNil))) (aCons (eK (.int 1)) aNil)))) sNext) (sRet (eCall d_parting_of (aCons (eV 0) (aCons (eV 1) aNil)))))))
def d_parting : FD := dDef false 2 2 b_parting
def b_alike : SM := (sRet (eUn isNonD (eCall d_parting (aCons (eV 0) (aCons (eV 1) aNil)))))
def d_alike : FD := dDef false 2 2 b_alike
def b__law_other : SM := (sSeq (sAsg (eV 1) (gT 3 (gsCons (gN 2) (gsCons (gN 3) (gsCons (gN 4) gsNil))))) (sSeq (sSet 5 (eCall d__law_taken (aCons (eV 0) (aCons (eK (.int 5)) aNil)))) (sSeq (sIf (toB (eBin fEq (eV 5) (eK (.int 0)))) (sRet (eCall d__law_web (aCons (eV 0) (aCons (eK (.int 2)) (aCons (eK (.int 6)) aNil))))) sNext) (sSeq (sIf (toB (eBin fEq (eV 5) (eK (.int 1)))) (sSeq (sSet 6 (eBin fAdd (eK (.int 1)) (eCall d__law_taken (aCons (eV 0) (aCons (eBin fSub (eV 2) (eK (.int 1))) aNil))))) (sRet (eTup (aCons (eV 2) (aCons (eArgs fTuple (aCons (eComp (aRng rng2 (aCons (eK (.int 1)) (aCons (eV 2) aNil))) (gN 7) (toB (eBin fNe (eBin (fIn false) (eV 7) (eV 3)) (eBin fEq (eV 7) (eV 6)))) (eV 7) [7]) aNil)) (aCons (eV 4) aNil)))))) sNext) (sSeq (sIf (toB (eBin fEq (eV 5) (eK (.int 2)))) (sRet (eV 1)) sNext) (sSeq (sSet 8 (eCall d__law_taken (aCons (eV 0) (aCons (eBin fSub (eV 2) (eK (.int 1))) aNil)))) (sSeq (sSet 6 (eBin fIx (eComp (aRng rng1 (aCons (eV 2) aNil)) (gN 7) (toB (eBin fNe (eV 7) (eBin fAdd (eV 8) (eK (.int 1))))) (eV 7) [7]) (eCall d__law_taken (aCons (eV 0) (aCons (eBin fSub (eV 2) (eK (.int 1))) aNil))))) (sSeq (sSet 9 (eBin fAdd (eLst (aCons (eK .non) aNil)) (eComp (aRng rng1 (aCons (eV 2) aNil)) (gN 7) (toB (eBin fNe (eV 7) (eV 6))) (eV 7) [7]))) (sSeq (sSet 7 (eBin fAdd (eBin fAdd (eSl (eBin fIx (eV 4) (eV 8)) pNone (pSome (eV 6))) (eTup (aCons (eBin fIx (eV 9) (eCall d__law_taken (aCons (eV 0) (aCons (eV 2) aNil)))) aNil))) (eSl (eBin fIx (eV 4) (eV 8)) (pSome (eBin fAdd (eV 6) (eK (.int 1)))) pNone))) (sRet (eTup (aCons (eV 2) (aCons (eV 3) (aCons (eBin fAdd (eBin fAdd (eSl (eV 4) pNone (pSome (eV 8))) (eTup (aCons (eV 7) aNil))) (eSl (eV 4) (pSome (eBin fAdd (eV 8) (eK (.int 1)))) pNone)) aNil))))))))))))))
def d__law_other : FD := dDef false 2 10 b__law_other
def b__law_parting : SM := (sSeq (sIf (toB (eBin fNe (eBin fIx (eV 0) (eK (.int 0))) (eBin fIx (eV 1) (eK (.int 0))))) (sRet (eTup (aCons (eArgs fMin2 (aCons (eBin fIx (eV 0) (eK (.int 0))) (aCons (eBin fIx (eV 1) (eK (.int 0))) aNil))) (aCons (eK (.int 1)) aNil)))) sNext) (sSeq (sFor (aRng rng2 (aCons (eK (.int 1)) (aCons (eBin fIx (eV 0) (eK (.int 0))) aNil))) (gN 2) (sFor (aRng rng2 (aCons (eK (.int 1)) (aCons (eK (.int 61)) aNil))) (gN 3) (sIf (toB (eBin fNe (eCall d__law_asked (aCons (eV 0) (aCons (eV 2) (aCons (eV 3) aNil)))) (eCall d__law_asked (aCons (eV 1) (aCons (eV 2) (aCons (eV 3) aNil)))))) (sRet (eTup (aCons (eV 2) (aCons (eV 3) aNil)))) sNext))) (sRet (eK .non))))
def d__law_parting : FD := dDef false 2 4 b__law_parting
end HC
namespace K06
open PySem PySem.Spec L2 HD HC
open PyProof.Rows hiding St
def b_law : SM := (sSeq (sFor (aRng rng1 (aCons (eK (.int 6)) aNil)) (gN 2) (sSeq (sSet 3 (eCall d__law_web (aCons (eV 1) (aCons (eK (.int 2)) (aCons (eK (.int 6)) aNil))))) (sSeq (sSet 4 (eCall d__law_other (aCons (eV 1) (aCons (eV 3) aNil)))) (sSeq (sSet 5 (eCall d__law_parting (aCons (eV 3) (aCons (eV 4) aNil)))) (sSeq (sIf (tNot' (toB (eCall d__law_alike (aCons (eLst (aCons (eCall d_parting (aCons (eV 3) (aCons (eV 4) aNil))) (aCons (eCall d_parting (aCons (eV 4) (aCons (eV 3) aNil))) aNil))) (aCons (eLst (aCons (eV 5) (aCons (eV 5) aNil))) aNil))))) (sRet (eK (.bl false))) sNext) (sIf (tNot' (toB (eCall d__law_alike (aCons (eLst (aCons (eCall d_alike (aCons (eV 3) (aCons (eV 4) aNil))) (aCons (eCall d_alike (aCons (eV 4) (aCons (eV 3) aNil))) aNil))) (aCons (eBin fMul (eLst (aCons (eUn isNonD (eV 5)) aNil)) (eK (.int 2))) aNil))))) (sRet (eK (.bl false))) sNext)))))) (sRet (eK (.bl true))))
end K06
end
section
/-! Plain lemmas: how readings reckon. -/
namespace HD
open PySem PySem.Spec L2

section
variable {α β : Type}
@[simp] theorem bind_ok (a : α) (f : α → R β) : (R.ok a).bind f = f a := rfl
@[simp] theorem bind_exc (x : Exn) (w : Rw) (f : α → R β) : (R.exc x w).bind f = .exc x w := rfl
@[simp] theorem bind_stuck (f : α → R β) : (R.stuck : R α).bind f = .stuck := rfl
@[simp] theorem ofO_some (a : α) (w : Rw) : ofO (some a) w = .ok (a, w) := rfl
@[simp] theorem ofO_none (w : Rw) : ofO (none : Option α) w = .stuck := rfl
@[simp] theorem noX_ok (a : α) : noX (R.ok a) = .ok a := rfl
end
def seqK (g : SM) (p : Fl × Dl × Rw) : R (Fl × Dl × Rw) := match p.1 with
  | .next => g p.2.1 p.2.2
  | x => .ok (x, p.2)
@[simp] theorem seqK_next (g : SM) (l : Dl) (rw : Rw) : seqK g (.next, l, rw) = g l rw := rfl
@[simp] theorem seqK_ret (g : SM) (d : D) (l : Dl) (rw : Rw) : seqK g (.ret d, l, rw) = .ok (.ret d, l, rw) := rfl
@[simp] theorem seqK_brk (g : SM) (l : Dl) (rw : Rw) : seqK g (.brk, l, rw) = .ok (.brk, l, rw) := rfl
@[simp] theorem seqK_cont (g : SM) (l : Dl) (rw : Rw) : seqK g (.cont, l, rw) = .ok (.cont, l, rw) := rfl
def getV (x : Option Sl) (rw : Rw) : R (D × Rw) := match x with
  | some (.val d) => .ok (d, rw)
  | _ => .stuck
@[simp] theorem getV_val (d : D) (rw : Rw) : getV (some (.val d)) rw = .ok (d, rw) := rfl
def toBK (p : D × Rw) : R (Bool × Rw) := match p.1 with
  | .bl b => .ok (b, p.2)
  | _ => .stuck
@[simp] theorem toBK_bl (b : Bool) (rw : Rw) : toBK (.bl b, rw) = .ok (b, rw) := rfl
section
variable (l : Dl) (rw : Rw)
@[simp] theorem eBin_ap (f : D → D → Option D) (g1 g2 : EM D) : eBin f g1 g2 l rw = (g1 l rw).bind fun p => (g2 l p.2).bind fun q => ofO (f p.1 q.1) q.2 := rfl
@[simp] theorem eUn_ap (f : D → Option D) (g : EM D) : eUn f g l rw = (g l rw).bind fun p => ofO (f p.1) p.2 := rfl
@[simp] theorem aNil_ap : aNil l rw = .ok ([], rw) := rfl
@[simp] theorem aCons_ap (g : EM D) (r : EM (List D)) : aCons g r l rw = (g l rw).bind fun p => (r l p.2).bind fun q => .ok (p.1 :: q.1, q.2) := rfl
@[simp] theorem eArgs_ap (f : List D → Option D) (g : EM (List D)) : eArgs f g l rw = (g l rw).bind fun p => ofO (f p.1) p.2 := rfl
@[simp] theorem eK_ap (d : D) : eK d l rw = .ok (d, rw) := rfl
@[simp] theorem eV_ap (i : Nat) : eV i l rw = getV l[i]? rw := rfl
@[simp] theorem toB_ap (g : EM D) : toB g l rw = (g l rw).bind toBK := rfl
@[simp] theorem eIf_ap (c : EM Bool) (a b : EM D) : eIf c a b l rw = (c l rw).bind fun p => if p.1 = true then a l p.2 else b l p.2 := rfl
@[simp] theorem tAnd_ap (a b : EM Bool) : tAnd' a b l rw = (a l rw).bind fun p => if p.1 = true then b l p.2 else .ok (false, p.2) := rfl
@[simp] theorem tOr_ap (a b : EM Bool) : tOr' a b l rw = (a l rw).bind fun p => if p.1 = true then .ok (true, p.2) else b l p.2 := rfl
@[simp] theorem tNot_ap (a : EM Bool) : tNot' a l rw = (a l rw).bind fun p => .ok (!p.1, p.2) := rfl
@[simp] theorem vAnd_ap (a b : EM D) : vAnd a b l rw = (a l rw).bind fun p => match p.1 with
  | .bl true => b l p.2
  | .bl false => .ok (.bl false, p.2)
  | _ => .stuck := rfl
@[simp] theorem vOr_ap (a b : EM D) : vOr a b l rw = (a l rw).bind fun p => match p.1 with
  | .bl true => .ok (.bl true, p.2)
  | .bl false => b l p.2
  | _ => .stuck := rfl
@[simp] theorem vNot_ap (a : EM D) : vNot a l rw = (a l rw).bind fun p => match p.1 with
  | .bl b => .ok (.bl (!b), p.2)
  | _ => .stuck := rfl
@[simp] theorem eChain_ap (f f' : D → D → Option D) (ga gb gc : EM D) : eChain f f' ga gb gc l rw = (ga l rw).bind fun p => (gb l p.2).bind fun q => match f p.1 q.1 with
  | some (.bl true) => (gc l q.2).bind fun t => ofO (f' q.1 t.1) t.2
  | some (.bl false) => .ok (.bl false, q.2)
  | _ => .stuck := rfl
@[simp] theorem eTup_ap (g : EM (List D)) : eTup g l rw = (g l rw).bind fun p => ofO (if p.1.length ≤ sizeLine then some (.tup p.1) else none) p.2 := rfl
@[simp] theorem eLst_ap (g : EM (List D)) : eLst g l rw = (g l rw).bind fun p => ofO (if p.1.length ≤ sizeLine then some (.lst p.1) else none) p.2 := rfl
@[simp] theorem aItems_ap (g : EM D) : aItems g l rw = (g l rw).bind fun p => ofO (itemsOf p.1) p.2 := rfl
@[simp] theorem aRng_ap (f : List D → Option (List D)) (g : EM (List D)) : aRng f g l rw = (g l rw).bind fun p => ofO (f p.1) p.2 := rfl
@[simp] theorem eCall_ap (F : FD) (g : EM (List D)) : eCall F g l rw = (g l rw).bind fun p => F p.1 p.2 := rfl
@[simp] theorem cYes_ap : cYes l rw = .ok (true, rw) := rfl
@[simp] theorem eComp_ap (g : EM (List D)) (tg : D → Dl → Option Dl) (c : EM Bool) (e : EM D) (vs : List Nat) : eComp g tg c e vs l rw = (g l rw).bind fun p => if p.1.length ≤ sizeLine then (compL tg c e (wipeD l vs) p.1 p.2).bind fun q => .ok (.lst q.1, q.2) else .stuck := rfl
@[simp] theorem eBor_ap (i : Nat) (g : EM D) : eBor i g l rw = match l[i]? with
  | some (.own d) => (noX (g (l.set i (.val d)) rw)).bind fun p => if isSc p.1 = true then .ok p else .stuck
  | _ => .stuck := rfl
@[simp] theorem tBor_ap (i : Nat) (g : EM Bool) : tBor i g l rw = match l[i]? with
  | some (.own d) => noX (g (l.set i (.val d)) rw)
  | _ => .stuck := rfl
@[simp] theorem eTupO_ap (i : Nat) : eTupO i l rw = match l[i]? with
  | some (.own (.lst ds)) => .ok (.tup ds, rw)
  | _ => .stuck := rfl
@[simp] theorem eCatO_ap (i : Nat) (g : EM D) : eCatO i g l rw = match l[i]? with
  | some (.own (.lst ds)) => (g l rw).bind fun p => (match p.1 with
    | .lst es => if ds.length + es.length ≤ sizeLine then .ok (.lst (ds ++ es), p.2) else .stuck
    | _ => .stuck)
  | _ => .stuck := rfl
@[simp] theorem eMeth_ap (T : String) (f : D → List D → Option D) (g : EM D) (a : EM (List D)) : eMeth T f g a l rw = (g l rw).bind fun p => if tyV' T p.1 = true then (a l p.2).bind fun q => ofO (f p.1 q.1) q.2 else .stuck := rfl
@[simp] theorem sNext_ap : sNext l rw = .ok (.next, l, rw) := rfl
@[simp] theorem sBrk_ap : sBrk l rw = .ok (.brk, l, rw) := rfl
@[simp] theorem sCont_ap : sCont l rw = .ok (.cont, l, rw) := rfl
@[simp] theorem sStuck_ap : sStuck l rw = .stuck := rfl
@[simp] theorem sSeq_ap (f g : SM) : sSeq f g l rw = (f l rw).bind (seqK g) := rfl
@[simp] theorem sSet_ap (i : Nat) (g : EM D) : sSet i g l rw = (g l rw).bind fun p => .ok (.next, l.set i (.val p.1), p.2) := rfl
@[simp] theorem sSetO_ap (i : Nat) (g : EM D) : sSetO i g l rw = (g l rw).bind fun p => .ok (.next, l.set i (.own p.1), p.2) := rfl
@[simp] theorem sExpr_ap (g : EM D) : sExpr g l rw = (g l rw).bind fun p => .ok (.next, l, p.2) := rfl
@[simp] theorem sRet_ap (g : EM D) : sRet g l rw = (g l rw).bind fun p => .ok (.ret p.1, l, p.2) := rfl
@[simp] theorem sRetN_ap : sRetN l rw = .ok (.ret .non, l, rw) := rfl
@[simp] theorem sRetV_ap (i : Nat) : sRetV i l rw = match l[i]? with
  | some (.own d) => .ok (.ret d, l, rw)
  | _ => .stuck := rfl
@[simp] theorem sIf_ap (c : EM Bool) (a b : SM) : sIf c a b l rw = (c l rw).bind fun p => if p.1 = true then a l p.2 else b l p.2 := rfl
@[simp] theorem sFrz_ap (i : Nat) : sFrz i l rw = match l[i]? with
  | some (.own d) => .ok (.next, l.set i (.val d), rw)
  | _ => .stuck := rfl
@[simp] theorem sFor_ap (g : EM (List D)) (tg : D → Dl → Option Dl) (body : SM) : sFor g tg body l rw = (g l rw).bind fun p => sLoop tg body p.1 l p.2 := rfl
@[simp] theorem sAsg_ap (g : EM D) (tg : D → Dl → Option Dl) : sAsg g tg l rw = (g l rw).bind fun p => match tg p.1 l with
  | some l' => .ok (.next, l', p.2)
  | none => .stuck := rfl
@[simp] theorem sMut_ap (T : String) (i : Nat) (f : D → List D → Option D) (g : EM (List D)) : sMut T i f g l rw = match l[i]? with
  | some (.own d) => if tyD d T = true then (g l rw).bind fun p => (match f d p.1 with
    | some d' => .ok (.next, l.set i (.own d'), p.2)
    | none => .stuck) else .stuck
  | _ => .stuck := rfl
@[simp] theorem gN_ap (i : Nat) (d : D) : gN i d l = some (l.set i (.val d)) := rfl
@[simp] theorem gsNil_ap : gsNil [] l = some l := rfl
@[simp] theorem gsCons_ap (t : D → Dl → Option Dl) (u : List D → Dl → Option Dl) (d : D) (r : List D) : gsCons t u (d :: r) l = (t d l).bind fun l1 => u r l1 := rfl
@[simp] theorem gT_ap (n : Nat) (u : List D → Dl → Option Dl) (ds : List D) : gT n u (.tup ds) l = if ds.length = n then u ds l else none := rfl
end
@[simp] theorem rng1_ap (j : Int) : rng1 [.int j] = if -1000000 ≤ j ∧ j ≤ 1000000 then some (rangeD 0 j.toNat) else none := by rw [rng1]
@[simp] theorem rng2_ap (i j : Int) : rng2 [.int i, .int j] = if (-1000000 ≤ i ∧ i ≤ 1000000) ∧ (-1000000 ≤ j ∧ j ≤ 1000000) then some (rangeD i (j - i).toNat) else none := by rw [rng2]
@[simp] theorem fAdd_int (i j : Int) : fAdd (.int i) (.int j) = some (.int (i + j)) := rfl
@[simp] theorem fSub_int (i j : Int) : fSub (.int i) (.int j) = some (.int (i - j)) := rfl
@[simp] theorem fMul_int (i j : Int) : fMul (.int i) (.int j) = if -1000000000000 ≤ j ∧ j ≤ 1000000000000 then some (.int (i * j)) else none := by rw [fMul]
@[simp] theorem fMod_int (i j : Int) : fMod (.int i) (.int j) = if 0 < j then some (.int (i % j)) else none := by rw [fMod]
@[simp] theorem fFdiv_int (i j : Int) : fFdiv (.int i) (.int j) = if 0 < j ∧ j < 1073741824 then some (.int (i / j)) else none := by rw [fFdiv]
@[simp] theorem fNeg_int (i : Int) : fNeg (.int i) = some (.int (-i)) := rfl
@[simp] theorem fCmp_int (p : Int → Int → Bool) (i j : Int) : fCmp p (.int i) (.int j) = some (.bl (p i j)) := rfl
@[simp] theorem isNon_non : isNonD .non = some (.bl true) := rfl
@[simp] theorem isNon_int (i : Int) : isNonD (.int i) = some (.bl false) := rfl
@[simp] theorem isNon_tup (i : List D) : isNonD (.tup i) = some (.bl false) := rfl
@[simp] theorem isNon_lst (i : List D) : isNonD (.lst i) = some (.bl false) := rfl
@[simp] theorem isNon_str (i : Str) : isNonD (.str i) = some (.bl false) := rfl
@[simp] theorem isNon_bl (i : Bool) : isNonD (.bl i) = some (.bl false) := rfl
@[simp] theorem notNon_non : notNonD .non = some (.bl false) := rfl
@[simp] theorem notNon_int (i : Int) : notNonD (.int i) = some (.bl true) := rfl
@[simp] theorem notNon_tup (i : List D) : notNonD (.tup i) = some (.bl true) := rfl
@[simp] theorem notNon_lst (i : List D) : notNonD (.lst i) = some (.bl true) := rfl
@[simp] theorem fLen_lst (xs : List D) : fLen [.lst xs] = some (.int xs.length) := rfl
@[simp] theorem fLen_tup (xs : List D) : fLen [.tup xs] = some (.int xs.length) := rfl
@[simp] theorem fLen_scr (xs : List Int) : fLen [.scr xs] = some (.int xs.length) := rfl
@[simp] theorem fList_lst (xs : List D) : fList [.lst xs] = some (.lst xs) := rfl
@[simp] theorem fList_tup (xs : List D) : fList [.tup xs] = some (.lst xs) := rfl
@[simp] theorem fTuple_lst (xs : List D) : fTuple [.lst xs] = some (.tup xs) := rfl
@[simp] theorem fTuple_tup (xs : List D) : fTuple [.tup xs] = some (.tup xs) := rfl
@[simp] theorem fIx_lst (xs : List D) (i : Int) : fIx (.lst xs) (.int i) = L2.atI xs i := rfl
@[simp] theorem fIx_tup (xs : List D) (i : Int) : fIx (.tup xs) (.int i) = L2.atI xs i := rfl
@[simp] theorem fIx_scr (xs : List Int) (i : Int) : fIx (.scr xs) (.int i) = (L2.atI xs i).map .int := rfl
@[simp] theorem itemsOf_lst (xs : List D) : itemsOf (.lst xs) = some xs := rfl
@[simp] theorem itemsOf_tup (xs : List D) : itemsOf (.tup xs) = some xs := rfl
@[simp] theorem fAppend_lst (ds : List D) (d : D) : fAppend (.lst ds) [d] = if ds.length < sizeLine then some (.lst (ds ++ [d])) else none := rfl
@[simp] theorem tyD_lst (ds : List D) : tyD (.lst ds) "list" = true := rfl
@[simp] theorem tyV_lst (ds : List D) : tyV' "list" (.lst ds) = true := rfl
@[simp] theorem isSc_int (i : Int) : isSc (.int i) = true := rfl
@[simp] theorem isSc_non : isSc .non = true := rfl
@[simp] theorem isSc_bl (i : Bool) : isSc (.bl i) = true := rfl
@[simp] theorem isSc_str (i : Str) : isSc (.str i) = true := rfl
theorem sl_big {n : Nat} (h : n ≤ 100000) : n ≤ sizeLine := by rw [sizeLine_eq]; omega
theorem sl_lt {n : Nat} (h : n ≤ 100000) : n < sizeLine := by rw [sizeLine_eq]; omega
@[simp] theorem rangeD_len (lo : Int) (n : Nat) : (rangeD lo n).length = n := rangeD_length
theorem rangeD_get {lo : Int} {n i : Nat} (h : i < n) : (rangeD lo n)[i]? = some (.int (lo + (i : Int))) := by
  unfold rangeD
  rw [List.getElem?_map, List.getElem?_range h]
  rfl
theorem rangeD_mem {lo : Int} {n : Nat} {d : D} (h : d ∈ rangeD lo n) : ∃ i : Nat, i < n ∧ d = .int (lo + (i : Int)) := by
  unfold rangeD at h
  obtain ⟨i, h1, h2⟩ := List.mem_map.mp h
  exact ⟨i, List.mem_range.mp h1, h2.symm⟩
theorem atI_ok {α : Type} {xs : List α} {i : Int} {j : Nat} {x : α} (h : i = (j : Int)) (e : xs[j]? = some x) : L2.atI xs i = some x := by rw [h]; exact atI_nat e
@[simp] theorem atI_zero {α : Type} (x : α) (xs : List α) : L2.atI (x :: xs) 0 = some x := atI_nat (j := 0) rfl
@[simp] theorem atI_one {α : Type} (x y : α) (xs : List α) : L2.atI (x :: y :: xs) 1 = some y := atI_nat (j := 1) rfl
@[simp] theorem atI_two {α : Type} (x y z : α) (xs : List α) : L2.atI (x :: y :: z :: xs) 2 = some z := atI_nat (j := 2) rfl

/-! ### equal things -/
@[simp] theorem eqD_int (i j : Int) : eqD (.int i) (.int j) = decide (i = j) := by unfold eqD; simp only [toPy, PyData.eqv]; exact Bool.beq_eq_decide_eq i j
@[simp] theorem eqD_str (i j : Str) : eqD (.str i) (.str j) = decide (i = j) := by unfold eqD; simp only [toPy, PyData.eqv]; exact Bool.beq_eq_decide_eq i j
@[simp] theorem eqD_bl (i j : Bool) : eqD (.bl i) (.bl j) = decide (i = j) := by unfold eqD; simp only [toPy, PyData.eqv]; exact Bool.beq_eq_decide_eq i j
@[simp] theorem eqD_non : eqD .non .non = true := by unfold eqD; simp only [toPy, PyData.eqv]
@[simp] theorem eqD_non_int (i : Int) : eqD .non (.int i) = false := by unfold eqD; simp only [toPy, PyData.eqv]
@[simp] theorem eqD_int_non (i : Int) : eqD (.int i) .non = false := by unfold eqD; simp only [toPy, PyData.eqv]
@[simp] theorem eqD_str_int (x : Str) (i : Int) : eqD (.str x) (.int i) = false := by unfold eqD; simp only [toPy, PyData.eqv]
@[simp] theorem eqD_int_str (x : Str) (i : Int) : eqD (.int i) (.str x) = false := by unfold eqD; simp only [toPy, PyData.eqv]
@[simp] theorem eqD_str_non (x : Str) : eqD (.str x) .non = false := by unfold eqD; simp only [toPy, PyData.eqv]
@[simp] theorem eqD_non_str (x : Str) : eqD .non (.str x) = false := by unfold eqD; simp only [toPy, PyData.eqv]
def eqDs : List D → List D → Bool
  | [], [] => true
  | x :: xs, y :: ys => eqD x y && eqDs xs ys
  | _, _ => false
theorem eqDs_py : ∀ xs ys : List D, PyData.eqvAll (toPys xs) (toPys ys) = eqDs xs ys
  | [], [] => by simp only [toPys, PyData.eqvAll, eqDs]
  | [], _ :: _ => by simp only [toPys, PyData.eqvAll, eqDs]
  | _ :: _, [] => by simp only [toPys, PyData.eqvAll, eqDs]
  | x :: xs, y :: ys => by simp only [toPys, PyData.eqvAll, eqDs, eqDs_py xs ys]; rfl
@[simp] theorem eqD_tup (xs ys : List D) : eqD (.tup xs) (.tup ys) = eqDs xs ys := by unfold eqD; simp only [toPy, PyData.eqv, eqDs_py]
@[simp] theorem eqD_lst (xs ys : List D) : eqD (.lst xs) (.lst ys) = eqDs xs ys := by unfold eqD; simp only [toPy, PyData.eqv, eqDs_py]
@[simp] theorem eqDs_nil : eqDs [] [] = true := by simp only [eqDs]
@[simp] theorem eqDs_cons (x y : D) (xs ys : List D) : eqDs (x :: xs) (y :: ys) = (eqD x y && eqDs xs ys) := by simp only [eqDs]
@[simp] theorem eqDs_cn (x : D) (xs : List D) : eqDs (x :: xs) [] = false := by simp only [eqDs]
@[simp] theorem eqDs_nc (x : D) (xs : List D) : eqDs [] (x :: xs) = false := by simp only [eqDs]
@[simp] theorem fit_int (n : Nat) (i : Int) : fit n (.int i) = true := by cases n <;> rfl
@[simp] theorem fit_bl (n : Nat) (i : Bool) : fit n (.bl i) = true := by cases n <;> rfl
@[simp] theorem fit_non (n : Nat) : fit n .non = true := by cases n <;> rfl
@[simp] theorem fit_str (n : Nat) (x : Str) : fit n (.str x) = PyData.strOk x := by cases n <;> rfl
@[simp] theorem fit_tup (n : Nat) (xs : List D) : fit (n + 1) (.tup xs) = xs.all (fit n) := rfl
@[simp] theorem fit_lst (n : Nat) (xs : List D) : fit (n + 1) (.lst xs) = xs.all (fit n) := rfl
theorem fit_mono : ∀ (n m : Nat) (d : D), n ≤ m → fit n d = true → fit m d = true := by
  intro n
  induction n with
  | zero =>
    intro m d _ h
    cases d <;> first | (simp at h ⊢; done) | (simp at h ⊢; exact h) | (simp [fit] at h)
  | succ n ih =>
    intro m d hm h
    obtain ⟨k, rfl⟩ : ∃ k, m = k + 1 := ⟨m - 1, by omega⟩
    cases d with
    | tup xs => simp only [fit_tup, List.all_eq_true] at h ⊢; exact fun x hx => ih k x (by omega) (h x hx)
    | lst xs => simp only [fit_lst, List.all_eq_true] at h ⊢; exact fun x hx => ih k x (by omega) (h x hx)
    | _ => first | (simp at h ⊢; done) | (simp at h ⊢; exact h) | (simp [fit] at h)
@[simp] theorem fEq_int (i j : Int) : fEq (.int i) (.int j) = some (.bl (decide (i = j))) := by unfold fEq; simp
@[simp] theorem fNe_int (i j : Int) : fNe (.int i) (.int j) = some (.bl (!decide (i = j))) := by unfold fNe; simp
@[simp] theorem fEq_bl (i j : Bool) : fEq (.bl i) (.bl j) = some (.bl (decide (i = j))) := by unfold fEq; simp
@[simp] theorem fNe_bl (i j : Bool) : fNe (.bl i) (.bl j) = some (.bl (!decide (i = j))) := by unfold fNe; simp
theorem eqD_refl : ∀ (n : Nat) (d : D), fit n d = true → eqD d d = true := by
  intro n
  induction n with
  | zero => intro d h; cases d <;> first | (simp; done) | (simp [fit] at h)
  | succ n ih =>
    intro d h
    have all : ∀ xs : List D, xs.all (fit n) = true → eqDs xs xs = true := by
      intro xs
      induction xs with
      | nil => intro _; rfl
      | cons x xs ihx => intro h; simp only [List.all_cons, Bool.and_eq_true] at h; simp [ih x h.1, ihx h.2]
    cases d with
    | tup xs => simp only [eqD_tup]; exact all xs h
    | lst xs => simp only [eqD_lst]; exact all xs h
    | _ => first | (simp; done) | (simp [fit] at h)
/-! ### comprehensions and loops -/
theorem compL_pure {tg : D → Dl → Option Dl} {c : EM Bool} {e : EM D} {lw : Dl} {rw : Rw} (b : D → Bool) (f : D → D) : ∀ ds : List D, (∀ d ∈ ds, ∃ l1, tg d lw = some l1 ∧ c l1 rw = .ok (b d, rw) ∧ (b d = true → e l1 rw = .ok (f d, rw))) → compL tg c e lw ds rw = .ok ((ds.filter b).map f, rw)
  | [], _ => rfl
  | d :: ds, h => by
    obtain ⟨l1, h1, h2, h3⟩ := h d (by simp)
    have ih := compL_pure b f ds fun x hx => h x (List.mem_cons_of_mem _ hx)
    unfold compL
    rw [h1]
    simp only [h2, noX_ok, bind_ok]
    cases hb : b d with
    | true => simp only [if_true, h3 hb, noX_ok, bind_ok, ih, List.filter_cons, hb, List.map_cons]
    | false => simp only [Bool.false_eq_true, if_false, ih, List.filter_cons, hb]
/-- a comprehension whose turns change the row -/
theorem compL_st {tg : D → Dl → Option Dl} {c : EM Bool} {e : EM D} {lw : Dl} (P : Rw → Prop) (Pd : Nat → D → Prop) : ∀ (ds : List D) (k : Nat) (rw : Rw), P rw →
    (∀ i d rw, ds[i]? = some d → P rw → ∃ l1, tg d lw = some l1 ∧ ∃ rw1 y rw2, c l1 rw = .ok (true, rw1) ∧ e l1 rw1 = .ok (y, rw2) ∧ P rw2 ∧ Pd (k + i) y) →
    ∃ ys rw', compL tg c e lw ds rw = .ok (ys, rw') ∧ P rw' ∧ ys.length = ds.length ∧ ∀ i y, ys[i]? = some y → Pd (k + i) y
  | [], k, rw, hP, _ => ⟨[], rw, rfl, hP, rfl, fun i y h => by simp at h⟩
  | d :: ds, k, rw, hP, h => by
    obtain ⟨l1, h1, rw1, y, rw2, h2, h3, h4, h5⟩ := h 0 d rw rfl hP
    obtain ⟨ys, rw', e1, e2, e3, e4⟩ := compL_st P Pd ds (k + 1) rw2 h4 fun i d' rw hd hP => by
      have := h (i + 1) d' rw (by simpa using hd) hP
      rwa [show k + (i + 1) = k + 1 + i by omega] at this
    refine ⟨y :: ys, rw', ?_, e2, by simp [e3], fun i z hz => ?_⟩
    · unfold compL
      rw [h1]
      simp only [h2, h3, noX_ok, bind_ok, if_true, e1]
    · cases i with
      | zero => simp at hz; subst hz; exact h5
      | succ i => have := e4 i z (by simpa using hz); rwa [show k + (i + 1) = k + 1 + i by omega]
/-- tests that change the row, the item itself kept -/
theorem compL_flt {tg : D → Dl → Option Dl} {c : EM Bool} {e : EM D} {lw : Dl} (P : Rw → Prop) : ∀ (ds : List D) (rw : Rw), P rw →
    (∀ d rw, d ∈ ds → P rw → ∃ l1, tg d lw = some l1 ∧ ∃ b rw1, c l1 rw = .ok (b, rw1) ∧ P rw1 ∧ e l1 rw1 = .ok (d, rw1)) →
    ∃ ys rw', compL tg c e lw ds rw = .ok (ys, rw') ∧ P rw' ∧ ys.Sublist ds
  | [], rw, hP, _ => ⟨[], rw, rfl, hP, .slnil⟩
  | d :: ds, rw, hP, h => by
    obtain ⟨l1, h1, b, rw1, h2, h3, h4⟩ := h d rw (by simp) hP
    obtain ⟨ys, rw', e1, e2, e3⟩ := compL_flt P ds rw1 h3 fun x rw hx hP => h x rw (List.mem_cons_of_mem _ hx) hP
    cases b with
    | true =>
      refine ⟨d :: ys, rw', ?_, e2, e3.cons_cons _⟩
      unfold compL
      rw [h1]
      simp only [h2, h4, noX_ok, bind_ok, if_true, e1]
    | false =>
      refine ⟨ys, rw', ?_, e2, e3.cons _⟩
      unfold compL
      rw [h1]
      simp only [h2, noX_ok, bind_ok, Bool.false_eq_true, if_false, e1]
/-- a for whose turns go on -/
theorem loop_all {tg : D → Dl → Option Dl} {body : SM} (P : Nat → Dl → Rw → Prop) : ∀ (ds : List D) (k : Nat) (l : Dl) (rw : Rw), P k l rw →
    (∀ i d l rw, ds[i]? = some d → P (k + i) l rw → ∃ l1, tg d l = some l1 ∧ ∃ l2 rw2, (body l1 rw = .ok (.next, l2, rw2) ∨ body l1 rw = .ok (.cont, l2, rw2)) ∧ P (k + i + 1) l2 rw2) →
    ∃ l' rw', sLoop tg body ds l rw = .ok (.next, l', rw') ∧ P (k + ds.length) l' rw'
  | [], k, l, rw, hP, _ => ⟨l, rw, rfl, hP⟩
  | d :: ds, k, l, rw, hP, h => by
    obtain ⟨l1, h1, l2, rw2, h2, h3⟩ := h 0 d l rw rfl hP
    obtain ⟨l', rw', e1, e2⟩ := loop_all P ds (k + 1) l2 rw2 h3 fun i d' l rw hd hP => by
      rw [show k + 1 + i = k + (i + 1) by omega] at hP ⊢
      exact h (i + 1) d' l rw (by simpa using hd) hP
    refine ⟨l', rw', ?_, by rw [List.length_cons, show k + (ds.length + 1) = k + 1 + ds.length by omega]; exact e2⟩
    unfold sLoop
    rw [h1]
    rcases h2 with h2 | h2 <;> simp only [h2, bind_ok] <;> exact e1
/-- a for that may hand back -/
theorem loop_post {tg : D → Dl → Option Dl} {body : SM} (P : Nat → Dl → Rw → Prop) (Q : R (Fl × Dl × Rw) → Prop) : ∀ (ds : List D) (k : Nat) (l : Dl) (rw : Rw), P k l rw →
    (∀ i d l rw, ds[i]? = some d → P (k + i) l rw → ∃ l1, tg d l = some l1 ∧ ((∃ l2 rw2, (body l1 rw = .ok (.next, l2, rw2) ∨ body l1 rw = .ok (.cont, l2, rw2)) ∧ P (k + i + 1) l2 rw2) ∨ ∃ z l2 rw2, body l1 rw = .ok (.ret z, l2, rw2) ∧ Q (.ok (.ret z, l2, rw2)))) →
    (∀ l rw, P (k + ds.length) l rw → Q (.ok (.next, l, rw))) → Q (sLoop tg body ds l rw)
  | [], k, l, rw, hP, _, hQ => hQ l rw hP
  | d :: ds, k, l, rw, hP, h, hQ => by
    obtain ⟨l1, h1, h2⟩ := h 0 d l rw rfl hP
    unfold sLoop
    rw [h1]
    rcases h2 with ⟨l2, rw2, h2, h3⟩ | ⟨z, l2, rw2, h2, h3⟩
    · have ih := loop_post P Q ds (k + 1) l2 rw2 h3 (fun i d' l rw hd hP => by
        rw [show k + 1 + i = k + (i + 1) by omega] at hP ⊢
        exact h (i + 1) d' l rw (by simpa using hd) hP) fun l rw hP => hQ l rw (by rw [List.length_cons, show k + (ds.length + 1) = k + 1 + ds.length by omega]; exact hP)
      rcases h2 with h2 | h2 <;> simp only [h2, bind_ok] <;> exact ih
    · simp only [h2, bind_ok]
      exact h3
end HD
end
section
/-! Plain lemmas: what a law draws. -/
namespace HC
open PySem PySem.Spec L2 HD

def RV (rw : Rw) : Prop := ∃ w, rw = some w ∧ 0 ≤ w.ix ∧ w.ns.length ≤ 63
def dFin (own : Bool) (p : Fl × Dl × Rw) : R (D × Rw) := match p.1 with
  | .ret d => .ok (d, p.2.2)
  | .next => if own = true then .stuck else .ok (.non, p.2.2)
  | _ => .stuck
@[simp] theorem dFin_ret (own : Bool) (d : D) (l : Dl) (rw : Rw) : dFin own (.ret d, l, rw) = .ok (d, rw) := rfl
@[simp] theorem dFin_next (l : Dl) (rw : Rw) : dFin false (.next, l, rw) = .ok (.non, rw) := rfl
theorem dDef0 (own : Bool) (m : Nat) (body : SM) (rw : Rw) : dDef own 0 m body [] rw = (body (List.replicate (m - 0) .no) rw).bind (dFin own) := rfl
theorem dDef1 (own : Bool) (m : Nat) (body : SM) (a0 : D) (rw : Rw) : dDef own 1 m body [a0] rw = (body (.val a0 :: List.replicate (m - 1) .no) rw).bind (dFin own) := rfl
theorem dDef2 (own : Bool) (m : Nat) (body : SM) (a0 a1 : D) (rw : Rw) : dDef own 2 m body [a0, a1] rw = (body (.val a0 :: .val a1 :: List.replicate (m - 2) .no) rw).bind (dFin own) := rfl
theorem dDef3 (own : Bool) (m : Nat) (body : SM) (a0 a1 a2 : D) (rw : Rw) : dDef own 3 m body [a0, a1, a2] rw = (body (.val a0 :: .val a1 :: .val a2 :: List.replicate (m - 3) .no) rw).bind (dFin own) := rfl
theorem dDef4 (own : Bool) (m : Nat) (body : SM) (a0 a1 a2 a3 : D) (rw : Rw) : dDef own 4 m body [a0, a1, a2, a3] rw = (body (.val a0 :: .val a1 :: .val a2 :: .val a3 :: List.replicate (m - 4) .no) rw).bind (dFin own) := rfl
theorem dDef5 (own : Bool) (m : Nat) (body : SM) (a0 a1 a2 a3 a4 : D) (rw : Rw) : dDef own 5 m body [a0, a1, a2, a3, a4] rw = (body (.val a0 :: .val a1 :: .val a2 :: .val a3 :: .val a4 :: List.replicate (m - 5) .no) rw).bind (dFin own) := rfl
@[simp] theorem eRow0 (i : Nat) (l : Dl) (w : RwS) (h : l[i]? = some (.val .row)) : eRow 0 i l (some w) = .ok (.scr w.ns, some w) := by unfold eRow; rw [h]; rfl
@[simp] theorem eRow1 (i : Nat) (l : Dl) (w : RwS) (h : l[i]? = some (.val .row)) : eRow 1 i l (some w) = .ok (.int w.ix, some w) := by unfold eRow; rw [h]; rfl
@[simp] theorem eRow2 (i : Nat) (l : Dl) (w : RwS) (h : l[i]? = some (.val .row)) : eRow 2 i l (some w) = .ok (.int w.mx, some w) := by unfold eRow; rw [h]; rfl
theorem sRow1 (i : Nat) (l : Dl) (rw : Rw) (g : EM D) (w : RwS) (z : Int) (h : l[i]? = some (.val .row)) (e : g l rw = .ok (.int z, some w)) : sRow 1 i g l rw = .ok (.next, l, some { w with ix := z }) := by unfold sRow; rw [e]; simp [h]
theorem sRow2 (i : Nat) (l : Dl) (rw : Rw) (g : EM D) (w : RwS) (z : Int) (h : l[i]? = some (.val .row)) (e : g l rw = .ok (.int z, some w)) : sRow 2 i g l rw = .ok (.next, l, some { w with mx := z }) := by unfold sRow; rw [e]; simp [h]

theorem taken_ok {rw : Rw} {n : Int} (hv : RV rw) (hn : 0 < n) : ∃ t rw', d__law_taken [.row, .int n] rw = .ok (.int t, rw') ∧ RV rw' ∧ 0 ≤ t ∧ t < n := by
  obtain ⟨w, rfl, h1, h2⟩ := hv
  unfold d__law_taken b__law_taken
  rw [dDef2]
  simp only [List.replicate, sSeq_ap]
  rw [sRow1 0 _ (some w) _ w (w.ix + 1) rfl (by simp [eRow1])]
  by_cases hc : ((w.ns.length : Nat) : Int) < w.ix + 1
  · refine ⟨(w.mx * 48271 + 11) % 2147483647 / 7 % n, some ⟨w.ns, w.ix + 1, (w.mx * 48271 + 11) % 2147483647⟩, ?_, ⟨_, rfl, by simp; omega, h2⟩, Int.emod_nonneg _ (by omega), Int.emod_lt_of_pos _ hn⟩
    simp [eRow1, eRow0, hc]
    rw [sRow2 0 _ _ _ ⟨w.ns, w.ix + 1, w.mx⟩ ((w.mx * 48271 + 11) % 2147483647) rfl (by simp [eRow2])]
    simp [eRow2, hn]
  · have hi : w.ix.toNat < w.ns.length := by omega
    refine ⟨w.ns[w.ix.toNat] % n, some ⟨w.ns, w.ix + 1, (w.mx * 48271 + w.ns[w.ix.toNat] + 11) % 2147483647⟩, ?_, ⟨_, rfl, by simp; omega, h2⟩, Int.emod_nonneg _ (by omega), Int.emod_lt_of_pos _ hn⟩
    have e : L2.atI w.ns w.ix = some w.ns[w.ix.toNat] := atI_ok (j := w.ix.toNat) (by omega) (List.getElem?_eq_getElem hi)
    simp [eRow1, eRow0, hc, e]
    rw [sRow2 0 _ _ _ ⟨w.ns, w.ix + 1, w.mx⟩ ((w.mx * 48271 + w.ns[w.ix.toNat] + 11) % 2147483647) rfl (by simp [eRow2])]
    simp [hn]

/-! ### a way -/
def dO : Option Nat → D
  | none => .non
  | some v => .int (v : Int)
@[simp] theorem dO_none : dO none = .non := rfl
@[simp] theorem dO_some (v : Nat) : dO (some v) = .int (v : Int) := rfl
def dWay (w : List (Option Nat)) : D := .tup (w.map dO)
structure WayOk (many goal : Nat) (w : List (Option Nat)) : Prop where
  len : w.length = many
  at_ : w[goal]? = some none
  go : ∀ (i v : Nat), w[i]? = some (some v) → v < many ∧ v ≠ i

def TR (g : EM Bool) (l : Dl) (rw : Rw) : Prop := ∃ b rw', g l rw = .ok (b, rw') ∧ RV rw'
theorem TR_and {a c : EM Bool} {l : Dl} {rw : Rw} (h : TR a l rw) (h2 : ∀ rw', RV rw' → TR c l rw') : TR (tAnd' a c) l rw := by
  obtain ⟨b, rw1, e, r⟩ := h
  cases b with
  | false => exact ⟨false, rw1, by simp [e], r⟩
  | true =>
    obtain ⟨b2, rw2, e2, r2⟩ := h2 rw1 r
    exact ⟨b2, rw2, by simp [e, e2], r2⟩
theorem TR_or {a c : EM Bool} {l : Dl} {rw : Rw} (h : TR a l rw) (h2 : ∀ rw', RV rw' → TR c l rw') : TR (tOr' a c) l rw := by
  obtain ⟨b, rw1, e, r⟩ := h
  cases b with
  | true => exact ⟨true, rw1, by simp [e], r⟩
  | false =>
    obtain ⟨b2, rw2, e2, r2⟩ := h2 rw1 r
    exact ⟨b2, rw2, by simp [e, e2], r2⟩
theorem TR_eqV {i : Nat} {l : Dl} {rw : Rw} {k c : Int} (hl : l[i]? = some (.val (.int k))) (r : RV rw) : TR (toB (eBin fEq (eV i) (eK (.int c)))) l rw := ⟨decide (k = c), rw, by simp [hl], r⟩
theorem TR_eqT {l : Dl} {rw : Rw} {n c : Int} (hl : l[0]? = some (.val .row)) (hn : 0 < n) (r : RV rw) : TR (toB (eBin fEq (eCall d__law_taken (aCons (eV 0) (aCons (eK (.int n)) aNil))) (eK (.int c)))) l rw := by
  obtain ⟨t, rw', e, r', _⟩ := taken_ok r hn
  exact ⟨decide (t = c), rw', by simp [hl, e], r'⟩
theorem TR_gtT {l : Dl} {rw : Rw} {n c : Int} (hl : l[0]? = some (.val .row)) (hn : 0 < n) (r : RV rw) : TR (toB (eBin fGt (eCall d__law_taken (aCons (eV 0) (aCons (eK (.int n)) aNil))) (eK (.int c)))) l rw := by
  obtain ⟨t, rw', e, r', _⟩ := taken_ok r hn
  exact ⟨decide (c < t), rw', by simp [hl, e], r'⟩
/-- numbers below n but one -/
def others (n i : Nat) : List D := (rangeD 0 n).filter fun d => !eqD d (.int (i : Int))
theorem others_get {n i j : Nat} {d : D} (h : (others n i)[j]? = some d) : ∃ v : Nat, d = .int (v : Int) ∧ v < n ∧ v ≠ i := by
  have hm := List.mem_of_getElem? h
  unfold others at hm
  obtain ⟨h1, h2⟩ := List.mem_filter.mp hm
  obtain ⟨v, hv, rfl⟩ := rangeD_mem h1
  refine ⟨v, by simp, hv, fun e => ?_⟩
  subst e
  simp at h2
theorem others_pos {n i : Nat} (hn : 2 ≤ n) : 0 < (others n i).length := by
  have key : ∀ v : Nat, v < n → v ≠ i → D.int (v : Int) ∈ others n i := fun v hv hne => by
    unfold others
    refine List.mem_filter.mpr ⟨?_, by simp; omega⟩
    unfold rangeD
    exact List.mem_map.mpr ⟨v, List.mem_range.mpr hv, by simp⟩
  by_cases h : i = 0
  · exact List.length_pos_of_mem (key 1 (by omega) (by omega))
  · exact List.length_pos_of_mem (key 0 (by omega) (by omega))
theorem others_le (n i : Nat) : (others n i).length ≤ n := by
  unfold others
  exact Nat.le_trans (List.length_filter_le _ _) (by simp)
def wayInv (many goal : Nat) (kind : Int) (k : Nat) (l : Dl) (rw : Rw) : Prop := RV rw ∧ ∃ (x5 x6 x7 : Sl) (w : List (Option Nat)), l = [.val .row, .val (.int (many : Int)), .val (.int (goal : Int)), .val (.int kind), .own (.lst (w.map dO)), x5, x6, x7] ∧ w.length = k ∧ (∀ (i v : Nat), w[i]? = some (some v) → v < many ∧ v ≠ i) ∧ (goal < k → w[goal]? = some none)
def wayBody : SM := (sSeq (sSet 7 (eComp (aRng rng1 (aCons (eV 1) aNil)) (gN 6) (toB (eBin fNe (eV 6) (eV 5))) (eV 6) [6])) (sSeq (sSet 6 (eBin fIx (eV 7) (eCall d__law_taken (aCons (eV 0) (aCons (eArgs fLen (aCons (eV 7) aNil)) aNil))))) (sSeq (sIf (tOr' (tAnd' (toB (eBin fEq (eV 3) (eK (.int 1)))) (toB (eBin fEq (eCall d__law_taken (aCons (eV 0) (aCons (eK (.int 3)) aNil))) (eK (.int 0))))) (tAnd' (toB (eBin fEq (eV 3) (eK (.int 0)))) (toB (eBin fEq (eCall d__law_taken (aCons (eV 0) (aCons (eK (.int 8)) aNil))) (eK (.int 7)))))) (sSet 6 (eK .non)) sNext) (sSeq (sIf (tAnd' (toB (eBin fEq (eV 3) (eK (.int 2)))) (toB (eBin fGt (eCall d__law_taken (aCons (eV 0) (aCons (eK (.int 3)) aNil))) (eK (.int 0))))) (sSet 6 (eBin fMod (eBin fAdd (eV 5) (eK (.int 1))) (eV 1))) sNext) (sMut "list" 4 fAppend (aCons (eIf (toB (eBin fEq (eV 5) (eV 2))) (eK .non) (eV 6)) aNil))))))
theorem way_turn {many goal : Nat} {kind : Int} (hm : 2 ≤ many ∧ many ≤ 6) (hg : goal < many) (i : Nat) (d : D) (l : Dl) (rw : Rw) (hd : (rangeD 0 many)[i]? = some d) (hP : wayInv many goal kind (0 + i) l rw) :
    ∃ l1, gN 5 d l = some l1 ∧ ∃ l2 rw2, (wayBody l1 rw = .ok (.next, l2, rw2) ∨ wayBody l1 rw = .ok (.cont, l2, rw2)) ∧ wayInv many goal kind (0 + i + 1) l2 rw2 := by
  unfold wayInv wayBody at *
  obtain ⟨r, x5, x6, x7, w, rfl, hl, h1, h2⟩ := hP
  have hi : i < many := by have := (List.getElem?_eq_some_iff.mp hd).1; simpa using this
  rw [rangeD_get hi] at hd
  cases hd
  refine ⟨_, rfl, ?_⟩
  simp only [Int.zero_add, Nat.zero_add] at hl h2 ⊢
  -- the others
  have hc : ∀ (x7 : Sl) (rw : Rw), compL (gN 6) (toB (eBin fNe (eV 6) (eV 5))) (eV 6) [.val .row, .val (.int (many : Int)), .val (.int (goal : Int)), .val (.int kind), .own (.lst (w.map dO)), .val (.int (i : Int)), .no, x7] (rangeD 0 many) rw = .ok (others many i, rw) := fun x7 rw => by
    rw [compL_pure (fun d => !eqD d (.int (i : Int))) id (rangeD 0 many) fun d hd => ?_]
    · simp [others]
    · obtain ⟨v, hv, rfl⟩ := rangeD_mem hd
      exact ⟨_, rfl, by simp, fun _ => by simp⟩
  have hlen : (others many i).length ≤ sizeLine := sl_big (Nat.le_trans (others_le _ _) (by omega))
  simp only [sSeq_ap, sSet_ap, eComp_ap, aRng_ap, aCons_ap, aNil_ap, eV_ap, List.set_cons_succ, List.set_cons_zero, List.getElem?_cons_succ, List.getElem?_cons_zero, getV_val, bind_ok, rng1_ap]
  rw [if_pos ⟨by omega, by omega⟩]
  simp only [ofO_some, bind_ok, Int.toNat_natCast, rangeD_len]
  rw [if_pos (sl_big (by omega))]
  simp only [wipeD, List.set_cons_succ, List.set_cons_zero]
  rw [hc x7]
  simp only [bind_ok, seqK_next, sSeq_ap, sSet_ap, eBin_ap, eV_ap, eCall_ap, aCons_ap, aNil_ap, eArgs_ap, List.getElem?_cons_succ, List.getElem?_cons_zero, getV_val, fLen_lst, ofO_some]
  obtain ⟨t, rwA, eA, rA, t0, t1⟩ := taken_ok r (n := ((others many i).length : Int)) (by have := others_pos (i := i) hm.1; omega)
  have ht : t.toNat < (others many i).length := by omega
  obtain ⟨v, ev, v1, v2⟩ := others_get (List.getElem?_eq_getElem ht)
  rw [eA]
  simp only [bind_ok, fIx_lst]
  rw [atI_ok (j := t.toNat) (by omega) (List.getElem?_eq_getElem ht), ev]
  simp only [ofO_some, bind_ok, seqK_next, List.set_cons_succ, List.set_cons_zero]
  -- lost?
  generalize hlv : ([.val .row, .val (.int (many : Int)), .val (.int (goal : Int)), .val (.int kind), .own (.lst (w.map dO)), .val (.int (i : Int)), .val (.int (v : Int)), .val (.lst (others many i))] : Dl) = lv
  obtain ⟨b, rwB, eB, rB⟩ : TR (tOr' (tAnd' (toB (eBin fEq (eV 3) (eK (.int 1)))) (toB (eBin fEq (eCall d__law_taken (aCons (eV 0) (aCons (eK (.int 3)) aNil))) (eK (.int 0))))) (tAnd' (toB (eBin fEq (eV 3) (eK (.int 0)))) (toB (eBin fEq (eCall d__law_taken (aCons (eV 0) (aCons (eK (.int 8)) aNil))) (eK (.int 7)))))) lv rwA := by
    subst hlv
    exact TR_or (TR_and (TR_eqV rfl rA) fun rw r => TR_eqT rfl (by decide) r) fun rw r => TR_and (TR_eqV rfl r) fun rw r => TR_eqT rfl (by decide) r
  simp only [sSeq_ap, sIf_ap, eB, bind_ok]
  obtain ⟨th, hth, eth⟩ : ∃ th : Option Nat, (∀ u, th = some u → u < many ∧ u ≠ i) ∧ (if b = true then sSet 6 (eK .non) lv rwB else sNext lv rwB) = .ok (.next, [.val .row, .val (.int (many : Int)), .val (.int (goal : Int)), .val (.int kind), .own (.lst (w.map dO)), .val (.int (i : Int)), .val (dO th), .val (.lst (others many i))], rwB) := by
    cases b with
    | true => exact ⟨none, (fun u h => by cases h), by subst hlv; simp⟩
    | false => exact ⟨some v, fun u h => (by cases h; exact ⟨v1, v2⟩), by subst hlv; simp⟩
  rw [eth]
  simp only [bind_ok, seqK_next, sSeq_ap, sIf_ap]
  generalize hlv2 : ([.val .row, .val (.int (many : Int)), .val (.int (goal : Int)), .val (.int kind), .own (.lst (w.map dO)), .val (.int (i : Int)), .val (dO th), .val (.lst (others many i))] : Dl) = lv2
  obtain ⟨b2, rwC, eC, rC⟩ : TR (tAnd' (toB (eBin fEq (eV 3) (eK (.int 2)))) (toB (eBin fGt (eCall d__law_taken (aCons (eV 0) (aCons (eK (.int 3)) aNil))) (eK (.int 0))))) lv2 rwB := by
    subst hlv2
    exact TR_and (TR_eqV rfl rB) fun rw r => TR_gtT rfl (by decide) r
  simp only [eC, bind_ok]
  obtain ⟨th2, hth2, eth2⟩ : ∃ th : Option Nat, (∀ u, th = some u → u < many ∧ u ≠ i) ∧ (if b2 = true then sSet 6 (eBin fMod (eBin fAdd (eV 5) (eK (.int 1))) (eV 1)) lv2 rwC else sNext lv2 rwC) = .ok (.next, [.val .row, .val (.int (many : Int)), .val (.int (goal : Int)), .val (.int kind), .own (.lst (w.map dO)), .val (.int (i : Int)), .val (dO th), .val (.lst (others many i))], rwC) := by
    cases b2 with
    | true =>
      refine ⟨some ((i + 1) % many), fun u h => ?_, ?_⟩
      · cases h
        refine ⟨Nat.mod_lt _ (by omega), fun e => ?_⟩
        by_cases hlt : i + 1 < many
        · rw [Nat.mod_eq_of_lt hlt] at e; omega
        · have e2 : i + 1 = many := by omega
          rw [e2, Nat.mod_self] at e; omega
      · subst hlv2
        have h0 : 0 < many := by omega
        simp [h0]
    | false => exact ⟨th, hth, by subst hlv2; simp⟩
  rw [eth2]
  have hw6 : w.length < sizeLine := sl_lt (by omega)
  have hw7 : (w.map dO).length < sizeLine := by rw [List.length_map]; exact hw6
  simp only [bind_ok, seqK_next, sMut_ap, List.getElem?_cons_succ, List.getElem?_cons_zero, tyD_lst, if_true, aCons_ap, aNil_ap, eIf_ap, toB_ap, eBin_ap, eV_ap, eK_ap, getV_val, fEq_int, ofO_some, toBK_bl]
  by_cases hgi : i = goal
  · refine ⟨_, rwC, .inl ?_, rC, .val (.int (i : Int)), .val (dO th2), .val (.lst (others many i)), w ++ [none], rfl, by simp [hl], fun j u hj => ?_, fun _ => ?_⟩
    · simp [hgi, hw6]
    · by_cases hjl : j < w.length
      · rw [List.getElem?_append_left hjl] at hj; exact h1 j u hj
      · rw [List.getElem?_append_right (by omega)] at hj
        have : j - w.length = 0 := by
          have := (List.getElem?_eq_some_iff.mp hj).1
          simp at this; omega
        rw [this] at hj; cases hj
    · rw [← hgi, ← hl]; simp
  · have hgi2 : ¬ ((i : Int) = (goal : Int)) := by omega
    refine ⟨_, rwC, .inl ?_, rC, .val (.int (i : Int)), .val (dO th2), .val (.lst (others many i)), w ++ [th2], rfl, by simp [hl], fun j u hj => ?_, fun hlt => ?_⟩
    · simp [hgi2, hw6]
    · by_cases hjl : j < w.length
      · rw [List.getElem?_append_left hjl] at hj; exact h1 j u hj
      · rw [List.getElem?_append_right (by omega)] at hj
        have e0 : j - w.length = 0 := by
          have := (List.getElem?_eq_some_iff.mp hj).1
          simp at this; omega
        rw [e0] at hj
        have e3 : th2 = some u := by simpa using hj
        have := hth2 u e3
        have ej : j = i := by omega
        rw [ej]; exact this
    · rw [List.getElem?_append_left (by omega)]
      exact h2 (by omega)
theorem way_ok {rw : Rw} {many goal : Nat} {kind : Int} (hm : 2 ≤ many ∧ many ≤ 6) (hg : goal < many) (hv : RV rw) : ∃ w rw', d__law_way [.row, .int (many : Int), .int (goal : Int), .int kind] rw = .ok (dWay w, rw') ∧ RV rw' ∧ WayOk many goal w := by
  unfold d__law_way b__law_way
  rw [dDef4]
  simp only [List.replicate, sSeq_ap, sSetO_ap, eLst_ap, aNil_ap, bind_ok, List.length_nil, Nat.zero_le, if_true, ofO_some, seqK_next, List.set_cons_succ, List.set_cons_zero, sFor_ap, aRng_ap, aCons_ap, eV_ap, List.getElem?_cons_succ, List.getElem?_cons_zero, getV_val, rng1_ap]
  rw [if_pos ⟨by omega, by omega⟩]
  simp only [ofO_some, bind_ok, Int.toNat_natCast]
  obtain ⟨l', rw', e1, r', x5, x6, x7, w, e2, hl, h1, h2⟩ := loop_all (tg := gN 5) (body := wayBody) (wayInv many goal kind) (rangeD 0 many) 0
    [.val .row, .val (.int (many : Int)), .val (.int (goal : Int)), .val (.int kind), .own (.lst []), .no, .no, .no] rw ⟨hv, .no, .no, .no, [], rfl, rfl, fun i v h => by simp at h, fun h => absurd h (Nat.not_lt_zero _)⟩ (way_turn hm hg)
  unfold wayBody at e1
  rw [e1]
  subst e2
  refine ⟨w, rw', ?_, r', ⟨by simpa using hl, h2 (by simpa using hg), h1⟩⟩
  simp [dWay]
end HC
end
section
/-! Plain lemmas: webs drawn, looked over, compared. -/
namespace HC
open PySem PySem.Spec L2 HD

/-! ### things compared with themselves -/
theorem isT_tt : isT "tuple" "tuple" = some true := by decide
theorem isT_tl : isT "tuple" "list" = some false := by decide
theorem isT_lt : isT "list" "tuple" = some false := by decide
theorem isT_ll : isT "list" "list" = some true := by decide
theorem isT_nt : isT "NoneType" "tuple" = some false := by decide
theorem isT_nl : isT "NoneType" "list" = some false := by decide
theorem isT_bt : isT "bool" "tuple" = some false := by decide
theorem isT_bl : isT "bool" "list" = some false := by decide
theorem isT_bb : isT "bool" "bool" = some true := by decide
theorem isT_it : isT "int" "tuple" = some false := by decide
theorem isT_il : isT "int" "list" = some false := by decide
theorem isT_ib : isT "int" "bool" = some false := by decide
theorem isT_is : isT "int" "str" = some false := by decide
theorem isT_ii : isT "int" "int" = some true := by decide
theorem isT_st : isT "str" "tuple" = some false := by decide
theorem isT_sl : isT "str" "list" = some false := by decide
theorem isT_sb : isT "str" "bool" = some false := by decide
theorem isT_ss : isT "str" "str" = some true := by decide
theorem fIsi_ap (d : D) (b : String) : fIsi [d, .raw (.ty b)] = (tyN d).bind fun a => (isT a b).map .bl := rfl
theorem fIsi2_ap (d : D) (b c : String) : fIsi2 b c d = (tyN d).bind fun a => (isT a b).bind fun p => (isT a c).map fun q => .bl (p || q) := rfl
@[simp] theorem fEq_nil : fEq (.lst []) (.lst []) = some (.bl true) := by unfold fEq; simp
@[simp] theorem fNe_nil : fNe (.lst []) (.lst []) = some (.bl false) := by unfold fNe; simp
theorem fEq_cn (x : D) (xs : List D) (h : fit 8 (.lst (x :: xs)) = true) : fEq (.lst (x :: xs)) (.lst []) = some (.bl false) := by unfold fEq; rw [if_pos ⟨h, by simp⟩]; simp
theorem fNe_cn (x : D) (xs : List D) (h : fit 8 (.lst (x :: xs)) = true) : fNe (.lst (x :: xs)) (.lst []) = some (.bl true) := by unfold fNe; rw [if_pos ⟨h, by simp⟩]; simp
theorem fEq_self {n : Nat} {d : D} (hn : n ≤ 8) (h : fit n d = true) : fEq d d = some (.bl true) := by
  have h8 := fit_mono n 8 d hn h
  unfold fEq
  rw [if_pos ⟨h8, h8⟩, eqD_refl 8 d h8]
theorem fNe_self {n : Nat} {d : D} (hn : n ≤ 8) (h : fit n d = true) : fNe d d = some (.bl false) := by
  have h8 := fit_mono n 8 d hn h
  unfold fNe
  rw [if_pos ⟨h8, h8⟩, eqD_refl 8 d h8]; rfl
/-- lists short enough, at every depth -/
def lenOk : Nat → D → Bool
  | n + 1, .tup xs => decide (xs.length ≤ 1000) && xs.all (lenOk n)
  | n + 1, .lst xs => decide (xs.length ≤ 1000) && xs.all (lenOk n)
  | _, .tup xs => xs.isEmpty
  | _, .lst xs => xs.isEmpty
  | _, _ => true
theorem alike_seq (self : FD) (xs : List D) (rw : Rw) (hl : xs.length ≤ 1000) (h : ∀ x ∈ xs, self [x, x] rw = .ok (.bl true, rw)) (l : Dl) (a : D) (ha : ∀ i : Nat, fIx a (.int (i : Int)) = xs[i]?) (hlen : fLen [a] = some (.int (xs.length : Nat)))
    (h0 : l[0]? = some (.val a)) (h1 : l[1]? = some (.val a)) (h2 : 2 < l.length) :
    (eBin fEq (eComp (aRng rng1 (aCons (eArgs fLen (aCons (eV 1) aNil)) aNil)) (gN 2) (tNot' (toB (eCall self (aCons (eBin fIx (eV 0) (eV 2)) (aCons (eBin fIx (eV 1) (eV 2)) aNil))))) (eV 2) [2]) (eLst aNil)) l rw = .ok (.bl true, rw) := by
  have hc : compL (gN 2) (tNot' (toB (eCall self (aCons (eBin fIx (eV 0) (eV 2)) (aCons (eBin fIx (eV 1) (eV 2)) aNil))))) (eV 2) (wipeD l [2]) (rangeD 0 xs.length) rw = .ok ([], rw) := by
    rw [compL_pure (fun _ => false) id (rangeD 0 xs.length) fun d hd => ?_]
    · simp
    · obtain ⟨i, hi, rfl⟩ := rangeD_mem hd
      refine ⟨_, rfl, ?_, fun h => by cases h⟩
      have e0 : (((wipeD l [2]).set 2 (.val (.int (0 + (i : Int)))))[0]?) = some (.val a) := by simp [wipeD, h0]
      have e1 : (((wipeD l [2]).set 2 (.val (.int (0 + (i : Int)))))[1]?) = some (.val a) := by simp [wipeD, h1]
      have e2 : (((wipeD l [2]).set 2 (.val (.int (0 + (i : Int)))))[2]?) = some (.val (.int (i : Int))) := by simp [wipeD, h2]
      have ex : xs[i]? = some xs[i] := List.getElem?_eq_getElem hi
      have hs := h xs[i] (List.getElem_mem hi)
      simp only [tNot_ap, toB_ap, eCall_ap, aCons_ap, aNil_ap, eBin_ap, eV_ap, e0, e1, e2, getV_val, bind_ok, ha, ex, ofO_some, hs, toBK_bl]
      rfl
  have hz : xs.length ≤ sizeLine := sl_big (by omega)
  simp only [eBin_ap, eComp_ap, aRng_ap, aCons_ap, aNil_ap, eArgs_ap, eV_ap, h1, getV_val, bind_ok, hlen, ofO_some, rng1_ap]
  rw [if_pos ⟨by omega, by omega⟩]
  simp only [ofO_some, bind_ok, Int.toNat_natCast, rangeD_len]
  rw [if_pos hz, hc]
  simp
theorem atI_nat_eq {xs : List D} (i : Nat) : L2.atI xs (i : Int) = xs[i]? := by
  cases h : xs[i]? with
  | some d => exact atI_nat h
  | none =>
    unfold L2.atI ixN
    have hle := List.getElem?_eq_none_iff.mp h
    rw [if_pos (by omega), if_neg (by omega)]
    rfl
theorem alike_self : ∀ (n : Nat) (d : D) (rw : Rw), fit n d = true → lenOk n d = true → r__law_alike (n + 1) [d, d] rw = .ok (.bl true, rw) := by
  intro n
  induction n with
  | zero =>
    intro d rw h hl
    unfold r__law_alike b__law_alike
    rw [dDef2]
    cases d <;> first | (simp [fit] at h; done) | skip
    case non => simp [fIsi_ap, fIsi2_ap, tyN, isT_nt, isT_nl]
    case bl b => simp [fIsi_ap, fIsi2_ap, tyN, isT_bt, isT_bl, isT_bb, isNonD]
    case int i => simp [fIsi_ap, fIsi2_ap, tyN, isT_it, isT_il, isT_ib, isT_is, isT_ii, isNonD]
    case str x =>
      have hs : PyData.strOk x = true := by simpa using h
      have he : fEq (.str x) (.str x) = some (.bl true) := fEq_self (n := 0) (by decide) (by simpa using hs)
      simp [fIsi_ap, fIsi2_ap, tyN, isT_st, isT_sl, isT_sb, isT_ss, isNonD, he]
  | succ n ih =>
    intro d rw h hl
    unfold r__law_alike b__law_alike
    rw [dDef2]
    cases d <;> first | (simp [fit] at h; done) | skip
    case non => simp [fIsi_ap, fIsi2_ap, tyN, isT_nt, isT_nl]
    case bl b => simp [fIsi_ap, fIsi2_ap, tyN, isT_bt, isT_bl, isT_bb, isNonD]
    case int i => simp [fIsi_ap, fIsi2_ap, tyN, isT_it, isT_il, isT_ib, isT_is, isT_ii, isNonD]
    case str x =>
      have hs : PyData.strOk x = true := by simpa using h
      have he : fEq (.str x) (.str x) = some (.bl true) := fEq_self (n := 0) (by decide) (by simpa using hs)
      simp [fIsi_ap, fIsi2_ap, tyN, isT_st, isT_sl, isT_sb, isT_ss, isNonD, he]
    case tup xs =>
      simp only [fit_tup, List.all_eq_true] at h
      have hl' : xs.length ≤ 1000 ∧ ∀ x ∈ xs, lenOk n x = true := by simpa [lenOk] using hl
      have hs := alike_seq (r__law_alike (n + 1)) xs rw hl'.1 (fun x hx => ih x rw (h x hx) (hl'.2 x hx)) [.val (.tup xs), .val (.tup xs), .no] (.tup xs) (fun i => atI_nat_eq i) rfl rfl rfl (by simp)
      simp only [List.replicate, sSeq_ap, sIf_ap, tOr_ap, toB_ap, eArgs_ap, aCons_ap, aNil_ap, eV_ap, eK_ap, List.getElem?_cons_succ, List.getElem?_cons_zero, getV_val, bind_ok, fIsi_ap, tyN, Option.bind_some, isT_tt, Option.map_some, ofO_some, toBK_bl, if_true, eBin_ap, fNe_bl, decide_true, Bool.not_true, Bool.false_eq_true, if_false, tNot_ap, eUn_ap, fIsi2_ap, isT_tl, Bool.or_false, sNext_ap, seqK_next, fLen_tup, fNe_int]
      rw [sRet_ap, hs]
      rfl
    case lst xs =>
      simp only [fit_lst, List.all_eq_true] at h
      have hl' : xs.length ≤ 1000 ∧ ∀ x ∈ xs, lenOk n x = true := by simpa [lenOk] using hl
      have hs := alike_seq (r__law_alike (n + 1)) xs rw hl'.1 (fun x hx => ih x rw (h x hx) (hl'.2 x hx)) [.val (.lst xs), .val (.lst xs), .no] (.lst xs) (fun i => atI_nat_eq i) rfl rfl rfl (by simp)
      simp only [List.replicate, sSeq_ap, sIf_ap, tOr_ap, toB_ap, eArgs_ap, aCons_ap, aNil_ap, eV_ap, eK_ap, List.getElem?_cons_succ, List.getElem?_cons_zero, getV_val, bind_ok, fIsi_ap, tyN, Option.bind_some, isT_lt, isT_ll, Option.map_some, ofO_some, toBK_bl, if_true, eBin_ap, fNe_bl, decide_true, Bool.not_true, Bool.false_eq_true, if_false, tNot_ap, eUn_ap, fIsi2_ap, Bool.false_or, Bool.or_true, sNext_ap, seqK_next, fLen_lst, fNe_int]
      rw [sRet_ap, hs]
      rfl
theorem alike_ok {d : D} {rw : Rw} (h : fit 5 d = true) (hl : lenOk 5 d = true) : d__law_alike [d, d] rw = .ok (.bl true, rw) := alike_self 5 d rw h hl
end HC
end
section
/-! Plain lemmas: webs. -/
namespace HC
open PySem PySem.Spec L2 HD

structure Web where
  many : Nat
  silent : List Nat
  ways : List (List (Option Nat))
def dNs (ns : List Nat) : List D := ns.map fun (n : Nat) => D.int (n : Int)
def dWeb (W : Web) : D := .tup [.int (W.many : Int), .tup (dNs W.silent), .tup (W.ways.map dWay)]
structure WebOk (W : Web) : Prop where
  lo : 2 ≤ W.many
  hi : W.many ≤ 6
  sort : W.silent.Pairwise (· < ·)
  sil : ∀ p ∈ W.silent, 1 ≤ p ∧ p < W.many
  len : W.ways.length = W.many - 1
  way : ∀ g, 1 ≤ g → g < W.many → ∃ w, W.ways[g - 1]? = some w ∧ WayOk W.many g w
theorem nodup_len {n : Nat} {l : List Nat} (h : l.Pairwise (· < ·)) (b : ∀ p ∈ l, p < n) : l.length ≤ n := by
  have h2 : ∀ (l : List Nat) (k : Nat), l.Pairwise (· < ·) → (∀ p ∈ l, k ≤ p ∧ p < n) → k ≤ n → l.length ≤ n - k := by
    intro l
    induction l with
    | nil => intro k _ _ _; simp
    | cons x xs ih =>
      intro k hp hb hk
      obtain ⟨a1, a2⟩ := List.pairwise_cons.mp hp
      have hx := hb x (by simp)
      have := ih (x + 1) a2 (fun p hp => ⟨a1 p hp, (hb p (List.mem_cons_of_mem _ hp)).2⟩) (by omega)
      simp only [List.length_cons]
      omega
  exact h2 l 0 h (fun p hp => ⟨Nat.zero_le _, b p hp⟩) (Nat.zero_le _)
theorem WebOk.silLen {W : Web} (h : WebOk W) : W.silent.length ≤ 6 := Nat.le_trans (nodup_len h.sort fun p hp => (h.sil p hp).2) h.hi
theorem fit_dO (n : Nat) (o : Option Nat) : fit n (dO o) = true := by cases o <;> simp
theorem fit_way (n : Nat) (w : List (Option Nat)) : fit (n + 1) (dWay w) = true := by simp [dWay, fit_dO]
theorem fit_dNs (n : Nat) (ns : List Nat) : (dNs ns).all (fit n) = true := by simp [dNs]
theorem fit_web (n : Nat) (W : Web) : fit (n + 3) (dWeb W) = true := by
  simp only [dWeb, fit_tup, List.all_cons, fit_int, fit_dNs, List.all_map, List.all_nil, Bool.and_true, Bool.true_and]
  simp [Function.comp_def, fit_way]
theorem rangeD_dNs (lo n : Nat) : rangeD (lo : Int) n = dNs (List.range' lo n) := by
  unfold rangeD dNs
  rw [List.range'_eq_map_range, List.map_map]
  refine List.map_congr_left fun k _ => ?_
  show D.int _ = D.int _
  congr 1
theorem eqDs_refl {n : Nat} : ∀ {xs : List D}, xs.all (fit n) = true → eqDs xs xs = true := fun {xs} h => by
  have := eqD_refl (n + 1) (.lst xs) h
  simpa using this

theorem web_ok {rw : Rw} {a b : Nat} (ha : 2 ≤ a) (hab : a ≤ b) (hb : b ≤ 6) (hv : RV rw) : ∃ W rw', d__law_web [.row, .int (a : Int), .int (b : Int)] rw = .ok (dWeb W, rw') ∧ RV rw' ∧ WebOk W ∧ a ≤ W.many ∧ W.many ≤ b := by
  unfold d__law_web b__law_web
  rw [dDef3]
  simp only [List.replicate, sSeq_ap, sSet_ap, eBin_ap, eV_ap, eCall_ap, aCons_ap, aNil_ap, eK_ap, List.getElem?_cons_succ, List.getElem?_cons_zero, getV_val, bind_ok, fSub_int, ofO_some, fAdd_int]
  obtain ⟨t, rw1, e1, r1, t0, t1⟩ := taken_ok hv (n := (b : Int) - (a : Int) + 1) (by omega)
  rw [e1]
  obtain ⟨many, hmany⟩ : ∃ many : Nat, (a : Int) + t = (many : Int) := ⟨((a : Int) + t).toNat, by omega⟩
  simp only [bind_ok, fAdd_int, ofO_some, List.set_cons_succ, List.set_cons_zero, seqK_next, sSeq_ap, sSet_ap, eBin_ap, eLst_ap, aCons_ap, aNil_ap, eK_ap, hmany, eCall_ap, eV_ap, List.getElem?_cons_succ, List.getElem?_cons_zero, getV_val]
  have hm : 2 ≤ many ∧ many ≤ 6 := by omega
  rw [if_pos (show ([D.int 2, D.int 4, D.int 99] : List D).length ≤ sizeLine from sl_big (by simp))]
  obtain ⟨t2, rw2, e2, r2, u0, u1⟩ := taken_ok r1 (n := 3) (by decide)
  simp only [ofO_some, bind_ok, e2, fIx_lst]
  obtain ⟨often, eo, ho⟩ : ∃ often : Int, L2.atI ([D.int 2, D.int 4, D.int 99] : List D) t2 = some (.int often) ∧ 0 < often := by
    have : t2 = 0 ∨ t2 = 1 ∨ t2 = 2 := by omega
    rcases this with rfl | rfl | rfl
    · exact ⟨2, by simp, by decide⟩
    · exact ⟨4, by simp, by decide⟩
    · exact ⟨99, by simp, by decide⟩
  rw [eo]
  simp only [ofO_some, bind_ok, seqK_next, List.set_cons_succ, List.set_cons_zero, sSeq_ap, sSet_ap, eComp_ap, aRng_ap, aCons_ap, aNil_ap, eK_ap, eV_ap, List.getElem?_cons_succ, List.getElem?_cons_zero, getV_val, rng2_ap]
  rw [if_pos ⟨⟨by omega, by omega⟩, by omega, by omega⟩]
  have hn : ((many : Int) - 1).toNat = many - 1 := by omega
  simp only [ofO_some, bind_ok, rangeD_len, hn]
  rw [if_pos (sl_big (by omega))]
  -- the silent ones
  obtain ⟨ys, rw3, e3, r3, s3⟩ := compL_flt (tg := gN 6) (c := toB (eBin fEq (eCall d__law_taken (aCons (eV 0) (aCons (eV 4) aNil))) (eK (.int 1)))) (e := eV 6)
    (lw := wipeD [.val .row, .val (.int (a : Int)), .val (.int (b : Int)), .val (.int (many : Int)), .val (.int often), .no, .no, .no] [6]) RV (rangeD 1 (many - 1)) rw2 r2 fun d rw hd r => by
      obtain ⟨t, rw', e, r', _⟩ := taken_ok r ho
      refine ⟨_, rfl, decide (t = 1), rw', ?_, r', ?_⟩
      · simp [wipeD, e]
      · simp [wipeD]
  rw [e3]
  obtain ⟨S, hS, rfl⟩ : ∃ S : List Nat, S.Sublist (List.range' 1 (many - 1)) ∧ ys = dNs S := by
    have h := s3
    rw [show rangeD 1 (many - 1) = dNs (List.range' 1 (many - 1)) from rangeD_dNs 1 (many - 1)] at h
    unfold dNs at h
    obtain ⟨l', h1, h2⟩ := List.sublist_map_iff.mp h
    exact ⟨l', h1, h2⟩
  have hSs : S.Pairwise (· < ·) := List.Pairwise.sublist hS (List.pairwise_lt_range' (s := 1) (n := many - 1))
  have hSm : ∀ p ∈ S, 1 ≤ p ∧ p < many := fun p hp => by
    have := hS.subset hp
    rw [List.mem_range'_1] at this
    omega
  simp only [bind_ok, seqK_next, List.set_cons_succ, List.set_cons_zero, sRet_ap, eTup_ap, aCons_ap, aNil_ap, eV_ap, eArgs_ap, eComp_ap, aRng_ap, eK_ap, List.getElem?_cons_succ, List.getElem?_cons_zero, getV_val, fTuple_lst, ofO_some, rng2_ap]
  rw [if_pos ⟨⟨by omega, by omega⟩, by omega, by omega⟩]
  simp only [ofO_some, bind_ok, rangeD_len, hn]
  rw [if_pos (sl_big (by omega))]
  obtain ⟨zs, rw4, e4, r4, l4, w4⟩ := compL_st (tg := gN 7) (c := cYes) (e := eCall d__law_way (aCons (eV 0) (aCons (eV 3) (aCons (eV 7) (aCons (eCall d__law_taken (aCons (eV 0) (aCons (eK (.int 3)) aNil))) aNil)))))
    (lw := wipeD [.val .row, .val (.int (a : Int)), .val (.int (b : Int)), .val (.int (many : Int)), .val (.int often), .val (.lst (dNs S)), .no, .no] [7]) RV (fun k y => ∃ w, y = dWay w ∧ WayOk many (k + 1) w) (rangeD 1 (many - 1)) 0 rw3 r3 fun i d rw hd r => by
      have hi : i < many - 1 := by have := (List.getElem?_eq_some_iff.mp hd).1; simpa using this
      rw [rangeD_get hi] at hd
      cases hd
      obtain ⟨t, rw1, e1, r1, _⟩ := taken_ok r (n := 3) (by decide)
      obtain ⟨w, rw2, e2, r2, hw⟩ := way_ok (kind := t) (goal := i + 1) hm (by omega) r1
      have ei : (1 : Int) + (i : Int) = ((i + 1 : Nat) : Int) := by omega
      refine ⟨_, rfl, rw, dWay w, rw2, rfl, ?_, r2, w, rfl, by rw [Nat.zero_add]; exact hw⟩
      simp only [wipeD, List.set_cons_succ, List.set_cons_zero, eCall_ap, aCons_ap, aNil_ap, eV_ap, eK_ap, List.getElem?_cons_succ, List.getElem?_cons_zero, getV_val, bind_ok, e1, ei]
      exact e2
  rw [e4]
  simp only [bind_ok, fTuple_lst, ofO_some]
  rw [if_pos (sl_big (by simp))]
  obtain ⟨ws, hws, hlw, hwo⟩ : ∃ ws : List (List (Option Nat)), zs = ws.map dWay ∧ ws.length = many - 1 ∧ ∀ i w, ws[i]? = some w → WayOk many (i + 1) w := by
    have key : ∀ (zs : List D) (k : Nat), (∀ i y, zs[i]? = some y → ∃ w, y = dWay w ∧ WayOk many (k + i + 1) w) → ∃ ws : List (List (Option Nat)), zs = ws.map dWay ∧ ∀ i w, ws[i]? = some w → WayOk many (k + i + 1) w := by
      intro zs
      induction zs with
      | nil => intro k _; exact ⟨[], rfl, fun i w h => by simp at h⟩
      | cons z zs ih =>
        intro k h
        obtain ⟨w, hz, hw⟩ := h 0 z rfl
        obtain ⟨ws, h1, h2⟩ := ih (k + 1) fun i y hy => by
          have := h (i + 1) y (by simpa using hy)
          rwa [show k + (i + 1) + 1 = k + 1 + i + 1 by omega] at this
        refine ⟨w :: ws, by rw [hz, h1]; rfl, fun i v hv => ?_⟩
        cases i with
        | zero => simp at hv; subst hv; exact hw
        | succ i => have := h2 i v (by simpa using hv); rwa [show k + (i + 1) + 1 = k + 1 + i + 1 by omega]
    obtain ⟨ws, h1, h2⟩ := key zs 0 fun i y hy => w4 i y hy
    refine ⟨ws, h1, ?_, fun i w h => by have := h2 i w h; rwa [Nat.zero_add] at this⟩
    rw [h1, List.length_map] at l4
    simpa using l4
  subst hws
  refine ⟨⟨many, S, ws⟩, rw4, rfl, r4, ⟨hm.1, hm.2, hSs, hSm, hlw, fun g h1 h2 => ?_⟩, by show a ≤ many; omega, by show many ≤ b; omega⟩
  have hg : g - 1 < ws.length := by show g - 1 < ws.length; rw [hlw]; show g - 1 < many - 1; have h2' : g < many := h2; omega
  refine ⟨ws[g - 1], List.getElem?_eq_getElem hg, ?_⟩
  have := hwo (g - 1) _ (List.getElem?_eq_getElem hg)
  rwa [show g - 1 + 1 = g by omega] at this

/-! ### webs are none refused -/
theorem sortU_id {S : List Nat} (h : S.Pairwise (· < ·)) : sortU (S.map fun (n : Nat) => (n : Int)) = S.map fun (n : Nat) => (n : Int) := by
  refine pw_uniq (pw_sortU _) ?_ fun k => mem_sortU
  rw [List.pairwise_map]
  exact h.imp fun {a b} hab => by omega
theorem toInts_dNs : ∀ S : List Nat, toInts (dNs S) = some (S.map fun (n : Nat) => (n : Int))
  | [] => rfl
  | n :: S => by
    show (toInts (dNs S)).map _ = _
    rw [toInts_dNs S]
    rfl
theorem is_way_ok {many goal : Nat} {w : List (Option Nat)} {rw : Rw} (hm : many ≤ 6) (h : WayOk many goal w) : d_is_way [.int (many : Int), .int (goal : Int), dWay w] rw = .ok (.bl true, rw) := by
  unfold d_is_way b_is_way
  rw [dDef3]
  have hat : L2.atI (w.map dO) (goal : Int) = some .non := by rw [atI_nat_eq, List.getElem?_map, h.at_]; rfl
  simp only [dWay, List.replicate, sSeq_ap, sIf_ap, tOr_ap, toB_ap, eBin_ap, eUn_ap, eArgs_ap, aCons_ap, aNil_ap, eV_ap, List.getElem?_cons_succ, List.getElem?_cons_zero, getV_val, bind_ok, fLen_tup, ofO_some, List.length_map, h.len, fNe_int, decide_true, Bool.not_true, toBK_bl, Bool.false_eq_true, if_false, fIx_tup, hat, notNon_non, sNext_ap, seqK_next, sFor_ap, aRng_ap, rng1_ap]
  rw [if_pos ⟨by omega, by omega⟩]
  simp only [ofO_some, bind_ok, Int.toNat_natCast]
  generalize hb : sSeq (sSet 4 _) _ = body
  obtain ⟨l', rw', e, r, x3, x4, e2⟩ := loop_all (tg := gN 3) (body := body) (fun _ l rw' => rw' = rw ∧ ∃ x3 x4, l = [.val (.int (many : Int)), .val (.int (goal : Int)), .val (.tup (w.map dO)), x3, x4]) (rangeD 0 many) 0
    [.val (.int (many : Int)), .val (.int (goal : Int)), .val (.tup (w.map dO)), .no, .no] rw ⟨rfl, .no, .no, rfl⟩ (by
      rintro i d l rw2 hd ⟨rfl, x3, x4, rfl⟩
      have hi : i < many := by have := (List.getElem?_eq_some_iff.mp hd).1; simpa using this
      rw [rangeD_get hi] at hd
      cases hd
      have hi2 : i < w.length := by rw [h.len]; exact hi
      have hx : L2.atI (w.map dO) (i : Int) = some (dO w[i]) := by rw [atI_nat_eq, List.getElem?_map, List.getElem?_eq_getElem hi2]; rfl
      subst hb
      refine ⟨_, rfl, _, rw2, .inl ?_, rfl, .val (.int (i : Int)), .val (dO w[i]), rfl⟩
      cases hw : w[i] with
      | none => simp [hx, hw]
      | some v =>
        obtain ⟨h1, h2⟩ := h.go i v (by rw [List.getElem?_eq_getElem hi2, hw])
        have h3 : ¬ ((v : Int) = (i : Int)) := by omega
        simp [hx, hw, h1, h3])
  subst r e2
  rw [e]
  simp
theorem need_web_ok {W : Web} {rw : Rw} (h : WebOk W) : d_need_web [dWeb W] rw = .ok (.non, rw) := by
  unfold d_need_web b_need_web
  rw [dDef1]
  have hmany : d_is_many [.int (W.many : Int)] rw = .ok (.bl true, rw) := by
    unfold d_is_many b_is_many
    rw [dDef1]
    have h1 := h.lo
    have h2 := h.hi
    have h3 : (2 : Int) ≤ (W.many : Int) := by omega
    have h4 : (W.many : Int) ≤ 6 := by omega
    simp [h3, h4]
  have hsil : eUn sortSet (eV 2) [.val (dWeb W), .val (.int (W.many : Int)), .val (.tup (dNs W.silent)), .val (.tup (W.ways.map dWay)), .no, .no] rw = .ok (.lst (dNs W.silent), rw) := by
    simp only [eUn_ap, eV_ap, List.getElem?_cons_succ, List.getElem?_cons_zero, getV_val, bind_ok]
    unfold sortSet
    simp only [toInts_dNs, Option.bind_some]
    rw [if_pos (by rw [List.length_map]; have := h.silLen; omega), sortU_id h.sort, List.map_map]
    rfl
  have hc : compL (gN 5) (tNot' (toB (eChain fLe fLt (eK (.int 1)) (eV 5) (eV 1)))) (eV 5) (wipeD [.val (dWeb W), .val (.int (W.many : Int)), .val (.tup (dNs W.silent)), .val (.tup (W.ways.map dWay)), .no, .no] [5]) (dNs W.silent) rw = .ok ([], rw) := by
    rw [compL_pure (fun _ => false) id (dNs W.silent) fun d hd => ?_]
    · simp
    · unfold dNs at hd
      obtain ⟨p, hp, rfl⟩ := List.mem_map.mp hd
      obtain ⟨h1, h2⟩ := h.sil p hp
      have h3 : (1 : Int) ≤ (p : Int) := by omega
      refine ⟨_, rfl, ?_, fun z => by cases z⟩
      simp [wipeD, h3, h2]
  have hlen : (dNs W.silent).length ≤ sizeLine := sl_big (by rw [dNs, List.length_map]; have := h.silLen; omega)
  have hne : fNe (.lst (dNs W.silent)) (.lst (dNs W.silent)) = some (.bl false) := fNe_self (n := 1) (by decide) (by simp [fit_dNs])
  have hw : ((W.ways.length : Nat) : Int) = (W.many : Int) - 1 := by have := h.len; have := h.lo; omega
  rw [show dWeb W = .tup [.int (W.many : Int), .tup (dNs W.silent), .tup (W.ways.map dWay)] from rfl] at hsil hc ⊢
  simp only [List.replicate, sSeq_ap, sAsg_ap, eV_ap, List.getElem?_cons_succ, List.getElem?_cons_zero, getV_val, bind_ok, gT_ap, List.length_cons, List.length_nil, if_true, gsCons_ap, gN_ap, Option.bind_some, gsNil_ap, List.set_cons_succ, List.set_cons_zero, seqK_next, sIf_ap, tNot_ap, toB_ap, eCall_ap, aCons_ap, aNil_ap, hmany, toBK_bl, Bool.not_true, Bool.false_eq_true, if_false, sNext_ap, tOr_ap]
  rw [eBin_ap, eArgs_ap]
  simp only [aCons_ap, aNil_ap, eV_ap, List.getElem?_cons_succ, List.getElem?_cons_zero, getV_val, bind_ok, fList_tup, ofO_some]
  rw [hsil]
  simp only [bind_ok, hne, ofO_some, toBK_bl, Bool.false_eq_true, if_false]
  rw [eBin_ap, eComp_ap]
  simp only [aItems_ap, eV_ap, List.getElem?_cons_succ, List.getElem?_cons_zero, getV_val, bind_ok, itemsOf_tup, ofO_some]
  rw [if_pos hlen, hc]
  simp only [bind_ok, eLst_ap, aNil_ap, List.length_nil, Nat.zero_le, if_true, ofO_some, fNe_nil, toBK_bl, Bool.false_eq_true, if_false, sNext_ap, seqK_next, sSeq_ap, sIf_ap, toB_ap, eBin_ap, eArgs_ap, aCons_ap, eV_ap, eK_ap, List.getElem?_cons_succ, List.getElem?_cons_zero, getV_val, fLen_tup, List.length_map, fSub_int, fNe_int, hw, decide_true, Bool.not_true, sFor_ap, aRng_ap, rng2_ap]
  have hlo := h.lo
  have hhi := h.hi
  rw [if_pos ⟨⟨by omega, by omega⟩, by omega, by omega⟩]
  have hn : ((W.many : Int) - 1).toNat = W.many - 1 := by omega
  simp only [ofO_some, bind_ok, hn]
  generalize hb : sIf (tNot' (toB (eCall d_is_way _))) _ _ = body
  obtain ⟨l', rw', e, r, x4, e2⟩ := loop_all (tg := gN 4) (body := body) (fun _ l rw' => rw' = rw ∧ ∃ x4, l = [.val (.tup [.int (W.many : Int), .tup (dNs W.silent), .tup (W.ways.map dWay)]), .val (.int (W.many : Int)), .val (.tup (dNs W.silent)), .val (.tup (W.ways.map dWay)), x4, .no]) (rangeD 1 (W.many - 1)) 0
    _ rw ⟨rfl, .no, rfl⟩ (by
      rintro i d l rw2 hd ⟨rfl, x4, rfl⟩
      have hi : i < W.many - 1 := by have := (List.getElem?_eq_some_iff.mp hd).1; simpa using this
      rw [rangeD_get hi] at hd
      cases hd
      obtain ⟨w, hw1, hw2⟩ := h.way (i + 1) (by omega) (by omega)
      have ei : (1 : Int) + (i : Int) = ((i + 1 : Nat) : Int) := by omega
      have hx : L2.atI (W.ways.map dWay) (((i + 1 : Nat) : Int) - 1) = some (dWay w) := by
        rw [show ((i + 1 : Nat) : Int) - 1 = ((i : Nat) : Int) by omega, atI_nat_eq, List.getElem?_map]
        rw [show i + 1 - 1 = i by omega] at hw1
        rw [hw1]; rfl
      have hiw := is_way_ok (rw := rw2) hhi hw2
      subst hb
      refine ⟨_, rfl, _, rw2, .inl ?_, rfl, .val (.int ((i + 1 : Nat) : Int)), rfl⟩
      rw [ei]
      simp only [List.set_cons_succ, List.set_cons_zero, sIf_ap, tNot_ap, toB_ap, eCall_ap, aCons_ap, aNil_ap, eV_ap, eBin_ap, eK_ap, List.getElem?_cons_succ, List.getElem?_cons_zero, getV_val, bind_ok, fSub_int, ofO_some, fIx_tup, hx, hiw, toBK_bl, Bool.not_true, Bool.false_eq_true, if_false, sNext_ap])
  subst r e2
  rw [e]
  simp
theorem need_ask_ok {many goal : Nat} {hops : Int} {rw : Rw} (h1 : 1 ≤ goal) (h2 : goal < many) (h3 : 1 ≤ hops) (h4 : hops ≤ 60) : d_need_ask [.int (many : Int), .int (goal : Int), .int hops] rw = .ok (.non, rw) := by
  unfold d_need_ask b_need_ask
  rw [dDef3]
  have h5 : (1 : Int) ≤ (goal : Int) := by omega
  simp [h5, h2, h3, h4]
end HC
end
section
/-! Plain lemmas: walks. -/
namespace HC
open PySem PySem.Spec L2 HD

theorem dNs_append (P Q : List Nat) : dNs (P ++ Q) = dNs P ++ dNs Q := by simp [dNs]
theorem dNs_len (P : List Nat) : (dNs P).length = P.length := by simp [dNs]
theorem dNs_get (P : List Nat) (i : Nat) : (dNs P)[i]? = (P[i]?).map fun (n : Nat) => D.int (n : Int) := by simp [dNs]
theorem flat_dNs (P : List Nat) : (dNs P).all flatD = true := by simp [dNs, flatD]
theorem anyF_dNs (v : Nat) : ∀ P : List Nat, ((dNs P).any fun y => eqF y (.int (v : Int))) = decide (v ∈ P)
  | [] => by simp [dNs]
  | x :: P => by
    show (eqF (.int (x : Int)) (.int (v : Int)) || (dNs P).any fun y => eqF y (.int (v : Int))) = _
    rw [anyF_dNs v P]
    simp only [eqF, List.mem_cons]
    by_cases h : v = x
    · subst h; simp
    · have h2 : ¬ ((x : Int) = (v : Int)) := by omega
      simp [h, h2]
theorem fIn_dNs (neg : Bool) (v : Nat) (P : List Nat) : fIn neg (.int (v : Int)) (.lst (dNs P)) = some (.bl (if neg = true then !decide (v ∈ P) else decide (v ∈ P))) := by
  unfold fIn fInF seqOf
  simp only [flatD, flat_dNs, and_self, if_true, anyF_dNs]
theorem fIn_dNsT (neg : Bool) (v : Nat) (P : List Nat) : fIn neg (.int (v : Int)) (.tup (dNs P)) = some (.bl (if neg = true then !decide (v ∈ P) else decide (v ∈ P))) := by
  unfold fIn fInF seqOf
  simp only [flatD, flat_dNs, and_self, if_true, anyF_dNs]
/-- the first place of v -/
def fst_ (v : Nat) : List Nat → Nat
  | [] => 0
  | x :: P => if x = v then 0 else fst_ v P + 1
theorem firstAt_dNs {v : Nat} : ∀ {P : List Nat}, v ∈ P → firstAt (.int (v : Int)) (dNs P) = some (fst_ v P)
  | [], h => by simp at h
  | x :: P, h => by
    show (if eqD (.int (x : Int)) (.int (v : Int)) = true then some 0 else (firstAt (.int (v : Int)) (dNs P)).map (· + 1)) = _
    unfold fst_
    by_cases e : x = v
    · subst e; simp
    · have e2 : ¬ ((x : Int) = (v : Int)) := by omega
      have hm : v ∈ P := (List.mem_cons.mp h).resolve_left (Ne.symm e)
      simp [e, e2, firstAt_dNs hm]
theorem fst_lt {v : Nat} : ∀ {P : List Nat}, v ∈ P → fst_ v P < P.length ∧ P[fst_ v P]? = some v ∧ ∀ m, m < fst_ v P → P[m]? ≠ some v
  | [], h => by simp at h
  | x :: P, h => by
    unfold fst_
    by_cases e : x = v
    · subst e; simp
    · have hm : v ∈ P := (List.mem_cons.mp h).resolve_left (Ne.symm e)
      obtain ⟨h1, h2, h3⟩ := fst_lt hm
      rw [if_neg e]
      refine ⟨by simp; omega, by simpa using h2, fun m hm => ?_⟩
      cases m with
      | zero => simpa using e
      | succ m => simpa using h3 m (by omega)
theorem fIndex_dNs {v : Nat} {P : List Nat} (h : v ∈ P) : fIndex (.lst (dNs P)) [.int (v : Int)] = some (.int (fst_ v P : Nat)) := by
  show (if fit 8 (.lst (dNs P)) = true ∧ fit 8 (.int (v : Int)) = true then (firstAt (.int (v : Int)) (dNs P)).map fun j => D.int (j : Nat) else none) = _
  rw [if_pos ⟨by simp [fit_dNs], by simp⟩, firstAt_dNs h]; rfl
/-- the places of v, in a comprehension -/
theorem filter_fst {v : Nat} (b : Nat → Bool) : ∀ {P : List Nat} (lo : Nat), v ∈ P → (∀ i, i < P.length → b (lo + i) = decide (P[i]? = some v)) → ∃ r, (List.range' lo P.length).filter b = (lo + fst_ v P) :: r
  | [], lo, h, _ => by simp at h
  | x :: P, lo, h, hb => by
    unfold fst_
    rw [List.length_cons, List.range'_succ]
    by_cases e : x = v
    · subst e
      have h0 := hb 0 (by simp)
      simp at h0
      rw [List.filter_cons, if_pos (by simpa using h0)]
      exact ⟨(List.range' (lo + 1) P.length).filter b, by simp⟩
    · have hm : v ∈ P := (List.mem_cons.mp h).resolve_left (Ne.symm e)
      have h0 := hb 0 (by simp)
      simp [e] at h0
      rw [List.filter_cons, if_neg (by simp [h0])]
      obtain ⟨r, hr⟩ := filter_fst b (lo + 1) hm fun i hi => by
        have := hb (i + 1) (by simp; omega)
        rw [show lo + (i + 1) = lo + 1 + i by omega] at this
        simpa using this
      refine ⟨r, ?_⟩
      rw [hr, if_neg e]
      congr 1
      omega
/-- how a walk ends -/
def walkM (w : List (Option Nat)) (goal : Nat) : Nat → List Nat → Nat → Option D
  | 0, _, _ => none
  | n + 1, Q, v => match w[v]? with
    | some none => some (.tup [.tup (dNs (Q ++ [v])), .str "lost"])
    | some (some u) => if u = goal then some (.tup [.tup (dNs (Q ++ [v] ++ [goal])), .str "there"]) else if u ∈ Q ++ [v] then some (.tup [.tup (dNs (Q ++ [v])), .int (fst_ u (Q ++ [v]) : Nat)]) else walkM w goal n (Q ++ [v]) u
    | none => none
structure WkInv (many goal : Nat) (Q : List Nat) (v : Nat) : Prop where
  lt : ∀ p ∈ Q ++ [v], p < many ∧ p ≠ goal
  nd : (Q ++ [v]).Nodup
theorem WkInv.next {many goal : Nat} {Q : List Nat} {v u : Nat} (h : WkInv many goal Q v) (h1 : u < many) (h2 : u ≠ goal) (h3 : u ∉ Q ++ [v]) : WkInv many goal (Q ++ [v]) u := by
  refine ⟨fun p hp => ?_, ?_⟩
  · rcases List.mem_append.mp hp with hp | hp
    · exact h.lt p hp
    · simp at hp; subst hp; exact ⟨h1, h2⟩
  · rw [List.nodup_append]
    refine ⟨h.nd, by simp, fun a ha b hb => ?_⟩
    simp at hb
    subst hb
    exact fun e => h3 (e ▸ ha)
theorem nodup_lt_len {n : Nat} {l : List Nat} (h : l.Nodup) (b : ∀ p ∈ l, p < n) : l.length ≤ n := by
  have := List.Nodup.length_le_of_subset h (l₂ := List.range n) fun p hp => List.mem_range.mpr (b p hp)
  simpa using this
theorem WkInv.len {many goal : Nat} {Q : List Nat} {v : Nat} (h : WkInv many goal Q v) : Q.length + 1 ≤ many := by
  have := nodup_lt_len h.nd fun p hp => (h.lt p hp).1
  simpa using this
theorem walkM_some {many goal : Nat} {w : List (Option Nat)} (hw : WayOk many goal w) : ∀ (n : Nat) (Q : List Nat) (v : Nat), WkInv many goal Q v → many + 1 ≤ Q.length + 1 + n → ∃ d, walkM w goal n Q v = some d
  | 0, Q, v, h, hn => by have := h.len; omega
  | n + 1, Q, v, h, hn => by
    have hv := (h.lt v (by simp)).1
    have hvl : v < w.length := by rw [hw.len]; exact hv
    have e : w[v]? = some w[v] := List.getElem?_eq_getElem hvl
    unfold walkM
    rw [e]
    cases q : w[v] with
    | none => exact ⟨_, rfl⟩
    | some u =>
      dsimp only
      split
      · exact ⟨_, rfl⟩
      · split
        · exact ⟨_, rfl⟩
        · rename_i h1 h2
          obtain ⟨h3, h4⟩ := hw.go v u (by rw [e, q])
          exact walkM_some hw n (Q ++ [v]) u (h.next h3 h1 h2) (by simp; omega)
theorem atI_last' (Q : List Nat) (v : Nat) : L2.atI (dNs (Q ++ [v])) (-1) = some (.int (v : Int)) := by
  rw [dNs_append]; exact atI_last _ _
/-! ### the program's walk -/
def walkBody : SM := (sSeq (sSet 4 (eBor 3 (eBin fIx (eV 2) (eBin fIx (eV 3) (eUn fNeg (eK (.int 1))))))) (sSeq (sIf (toB (eUn isNonD (eV 4))) (sRet (eTup (aCons (eTupO 3) (aCons (eK (.str "lost")) aNil)))) sNext) (sSeq (sIf (toB (eBin fEq (eV 4) (eV 1))) (sRet (eTup (aCons (eArgs fTuple (aCons (eCatO 3 (eLst (aCons (eV 1) aNil))) aNil)) (aCons (eK (.str "there")) aNil)))) sNext) (sSeq (sIf (tBor 3 (toB (eBin (fIn false) (eV 4) (eV 3)))) (sRet (eTup (aCons (eTupO 3) (aCons (eBor 3 (eMeth "list" fIndex (eV 3) (aCons (eV 4) aNil))) aNil)))) sNext) (sMut "list" 3 fAppend (aCons (eV 4) aNil))))))
theorem walk_while {many goal : Nat} {w : List (Option Nat)} {rw : Rw} (hm : many ≤ 6) (hw : WayOk many goal w) (x0 : Sl) : ∀ (n : Nat) (Q : List Nat) (v : Nat) (d : D) (x4 : Sl) (fuel : Nat), WkInv many goal Q v → walkM w goal n Q v = some d → n ≤ fuel →
    ∃ l', sWhile (toB (eK (.bl true))) walkBody fuel [x0, .val (.int (goal : Int)), .val (dWay w), .own (.lst (dNs (Q ++ [v]))), x4] rw = .ok (.ret d, l', rw) := by
  intro n
  induction n with
  | zero => intro Q v d x4 fuel h e; cases e
  | succ n ih =>
    intro Q v d x4 fuel h e hf
    obtain ⟨m, rfl⟩ : ∃ m, fuel = m + 1 := ⟨fuel - 1, by omega⟩
    have hv := (h.lt v (by simp)).1
    have hvl : v < w.length := by rw [hw.len]; exact hv
    have ew : w[v]? = some w[v] := List.getElem?_eq_getElem hvl
    have ex : L2.atI (w.map dO) (v : Int) = some (dO w[v]) := by rw [atI_nat_eq, List.getElem?_map, ew]; rfl
    have hlen : (Q ++ [v]).length ≤ 6 := by have := h.len; simp; omega
    have hl1 : (dNs (Q ++ [v])).length ≤ sizeLine := sl_big (by rw [dNs_len]; omega)
    have hl2 : (dNs (Q ++ [v])).length < sizeLine := sl_lt (by rw [dNs_len]; omega)
    unfold walkM at e
    rw [ew] at e
    unfold sWhile
    simp only [toB_ap, eK_ap, bind_ok, toBK_bl, if_true]
    cases q : w[v] with
    | none =>
      rw [q] at e
      cases e
      refine ⟨[x0, .val (.int (goal : Int)), .val (dWay w), .own (.lst (dNs (Q ++ [v]))), .val .non], ?_⟩
      have hl5 : 2 ≤ sizeLine := sl_big (by omega)
      simp [walkBody, dWay, atI_last', ex, q, hl5]
    | some u =>
      rw [q] at e ex
      dsimp only at e
      obtain ⟨h3, h4⟩ := hw.go v u (by rw [ew, q])
      by_cases hg : u = goal
      · rw [if_pos hg] at e
        cases e
        refine ⟨[x0, .val (.int (goal : Int)), .val (dWay w), .own (.lst (dNs (Q ++ [v]))), .val (.int (u : Int))], ?_⟩
        subst hg
        have hl3 : (dNs (Q ++ [v])).length + 1 ≤ sizeLine := sl_big (by rw [dNs_len]; omega)
        have hl4 : 1 ≤ sizeLine := sl_big (by omega)
        have hl5 : 2 ≤ sizeLine := sl_big (by omega)
        have e2 : dNs (Q ++ ([v] ++ [u])) = dNs (Q ++ [v]) ++ [.int (u : Int)] := by rw [← List.append_assoc, dNs_append]; rfl
        simp [walkBody, dWay, atI_last', ex, hl3, hl4, hl5]
        simpa using e2.symm
      · rw [if_neg hg] at e
        have hg2 : ¬ ((u : Int) = (goal : Int)) := by omega
        by_cases hin : u ∈ Q ++ [v]
        · rw [if_pos hin] at e
          cases e
          refine ⟨[x0, .val (.int (goal : Int)), .val (dWay w), .own (.lst (dNs (Q ++ [v]))), .val (.int (u : Int))], ?_⟩
          have hl5 : 2 ≤ sizeLine := sl_big (by omega)
          simp only [walkBody, dWay, sSeq_ap, sSet_ap, eBor_ap, List.getElem?_cons_succ, List.getElem?_cons_zero, List.set_cons_succ, List.set_cons_zero, eBin_ap, eV_ap, getV_val, bind_ok, eUn_ap, eK_ap, fNeg_int, ofO_some, fIx_lst, atI_last', fIx_tup, ex, noX_ok, dO_some, isSc_int, if_true, seqK_next, sIf_ap, toB_ap, isNon_int, toBK_bl, Bool.false_eq_true, if_false, sNext_ap, fEq_int, hg2, decide_false, tBor_ap, fIn_dNs, hin, decide_true, sRet_ap, eTup_ap, aCons_ap, aNil_ap, eTupO_ap, eMeth_ap, tyV_lst, fIndex_dNs hin, List.length_cons, List.length_nil, seqK_ret]
          rw [if_pos (sl_big (by decide))]
          rfl
        · rw [if_neg hin] at e
          obtain ⟨l', ih⟩ := ih (Q ++ [v]) u d (.val (.int (u : Int))) m (h.next h3 hg hin) e (by omega)
          refine ⟨l', ?_⟩
          have e2 : dNs (Q ++ [v] ++ [u]) = dNs (Q ++ [v]) ++ [.int (u : Int)] := by rw [dNs_append]; rfl
          rw [e2] at ih
          have hb : walkBody [x0, .val (.int (goal : Int)), .val (dWay w), .own (.lst (dNs (Q ++ [v]))), x4] rw = .ok (.next, [x0, .val (.int (goal : Int)), .val (dWay w), .own (.lst (dNs (Q ++ [v]) ++ [.int (u : Int)])), .val (.int (u : Int))], rw) := by
            simp only [walkBody, dWay, sSeq_ap, sSet_ap, eBor_ap, List.getElem?_cons_succ, List.getElem?_cons_zero, List.set_cons_succ, List.set_cons_zero, eBin_ap, eV_ap, getV_val, bind_ok, eUn_ap, eK_ap, fNeg_int, ofO_some, fIx_lst, atI_last', fIx_tup, ex, noX_ok, dO_some, isSc_int, if_true, seqK_next, sIf_ap, toB_ap, isNon_int, toBK_bl, Bool.false_eq_true, if_false, sNext_ap, fEq_int, hg2, decide_false, tBor_ap, fIn_dNs, hin, sMut_ap, tyD_lst, aCons_ap, aNil_ap, fAppend_lst, hl2]
          rw [hb]
          simp only [bind_ok]
          exact ih
theorem walk_ok {W : Web} {goal : Nat} {w : List (Option Nat)} {rw : Rw} (h : WebOk W) (h1 : 1 ≤ goal) (h2 : goal < W.many) (hw : W.ways[goal - 1]? = some w) (hwo : WayOk W.many goal w) {d : D} (hd : walkM w goal (W.many + 1) [] 0 = some d) :
    d_walk [dWeb W, .int (goal : Int)] rw = .ok (d, rw) := by
  unfold d_walk b_walk
  rw [dDef2]
  have e1 := need_web_ok (rw := rw) h
  have e2 := need_ask_ok (rw := rw) (hops := 1) h1 h2 (by decide) (by decide)
  have hx : L2.atI (W.ways.map dWay) ((goal : Int) - 1) = some (dWay w) := by
    rw [show (goal : Int) - 1 = ((goal - 1 : Nat) : Int) by omega, atI_nat_eq, List.getElem?_map, hw]; rfl
  have hinv : WkInv W.many goal [] 0 := ⟨fun p hp => by simp at hp; subst hp; have := h.lo; omega, by simp⟩
  obtain ⟨l', hl⟩ := walk_while (rw := rw) h.hi hwo (.val (dWeb W)) (W.many + 1) [] 0 d .no 1000 hinv hd (by have := h.hi; omega)
  rw [show dWeb W = .tup [.int (W.many : Int), .tup (dNs W.silent), .tup (W.ways.map dWay)] from rfl] at *
  simp only [List.replicate, sSeq_ap, sExpr_ap, eCall_ap, aCons_ap, aNil_ap, eV_ap, eK_ap, eBin_ap, List.getElem?_cons_succ, List.getElem?_cons_zero, getV_val, bind_ok, e1, seqK_next, fIx_tup, atI_zero, atI_two, ofO_some, e2, sSet_ap, sSetO_ap, eLst_ap, fSub_int, hx, List.set_cons_succ, List.set_cons_zero, List.length_cons, List.length_nil]
  rw [if_pos (sl_big (by decide))]
  simp only [ofO_some, bind_ok, seqK_next]
  have e0 : dNs ([] ++ [0]) = [.int 0] := rfl
  rw [e0] at hl
  unfold walkBody at hl
  rw [hl]
  rfl
/-! ### the law's -/
def lwBody : SM := (sSeq (sSet 4 (eBor 2 (eBin fIx (eV 0) (eBin fIx (eV 2) (eUn fNeg (eK (.int 1))))))) (sSeq (sIf (toB (eUn isNonD (eV 4))) (sRet (eTup (aCons (eTupO 2) (aCons (eK (.str "lost")) aNil)))) sNext) (sSeq (sIf (tBor 2 (toB (eBin (fIn false) (eV 4) (eV 2)))) (sRet (eTup (aCons (eTupO 2) (aCons (eBor 2 (eBin fIx (eComp (aRng rng1 (aCons (eArgs fLen (aCons (eV 2) aNil)) aNil)) (gN 5) (toB (eBin fEq (eBin fIx (eV 2) (eV 5)) (eV 4))) (eV 5) [5]) (eK (.int 0)))) aNil)))) sNext) (sSeq (sMut "list" 2 fAppend (aCons (eV 4) aNil)) (sIf (toB (eBin fEq (eV 4) (eV 1))) (sRet (eTup (aCons (eTupO 2) (aCons (eK (.str "there")) aNil)))) sNext)))))
theorem lw_loop {many goal : Nat} {w : List (Option Nat)} {rw : Rw} (hm : many ≤ 6) (hw : WayOk many goal w) : ∀ (n : Nat) (Q : List Nat) (v : Nat) (d : D) (x3 x4 x5 : Sl) (ds : List D), WkInv many goal Q v → walkM w goal n Q v = some d → n ≤ ds.length →
    ∃ l', sLoop (gN 3) lwBody ds [.val (dWay w), .val (.int (goal : Int)), .own (.lst (dNs (Q ++ [v]))), x3, x4, x5] rw = .ok (.ret d, l', rw) := by
  intro n
  induction n with
  | zero => intro Q v d x3 x4 x5 ds h e; cases e
  | succ n ih =>
    intro Q v d x3 x4 x5 ds h e hf
    obtain ⟨y, ds, rfl⟩ : ∃ y ys, ds = y :: ys := by
      cases ds with
      | nil => simp at hf
      | cons y ys => exact ⟨y, ys, rfl⟩
    have hv := (h.lt v (by simp)).1
    have hvl : v < w.length := by rw [hw.len]; exact hv
    have ew : w[v]? = some w[v] := List.getElem?_eq_getElem hvl
    have ex : L2.atI (w.map dO) (v : Int) = some (dO w[v]) := by rw [atI_nat_eq, List.getElem?_map, ew]; rfl
    have hlen : (Q ++ [v]).length ≤ 6 := by have := h.len; simp; omega
    have hl1 : (dNs (Q ++ [v])).length ≤ sizeLine := sl_big (by rw [dNs_len]; omega)
    have hl2 : (dNs (Q ++ [v])).length < sizeLine := sl_lt (by rw [dNs_len]; omega)
    unfold walkM at e
    rw [ew] at e
    unfold sLoop
    simp only [gN_ap, List.set_cons_succ, List.set_cons_zero]
    cases q : w[v] with
    | none =>
      rw [q] at e
      cases e
      refine ⟨[.val (dWay w), .val (.int (goal : Int)), .own (.lst (dNs (Q ++ [v]))), .val y, .val .non, x5], ?_⟩
      have hl5 : 2 ≤ sizeLine := sl_big (by omega)
      simp [lwBody, dWay, atI_last', ex, q, hl5]
    | some u =>
      rw [q] at e ex
      dsimp only at e
      obtain ⟨h3, h4⟩ := hw.go v u (by rw [ew, q])
      have hpre : ∀ (x : Sl), sSet 4 (eBor 2 (eBin fIx (eV 0) (eBin fIx (eV 2) (eUn fNeg (eK (.int 1)))))) [.val (dWay w), .val (.int (goal : Int)), .own (.lst (dNs (Q ++ [v]))), .val y, x4, x5] rw = .ok (.next, [.val (dWay w), .val (.int (goal : Int)), .own (.lst (dNs (Q ++ [v]))), .val y, .val (.int (u : Int)), x5], rw) := fun x => by
        simp [dWay, atI_last', ex]
      by_cases hin : u ∈ Q ++ [v]
      · have hg : u ≠ goal := fun e0 => (h.lt u hin).2 e0
        rw [if_neg hg, if_pos hin] at e
        cases e
        -- the first place
        have hc : compL (gN 5) (toB (eBin fEq (eBin fIx (eV 2) (eV 5)) (eV 4))) (eV 5) (wipeD [.val (dWay w), .val (.int (goal : Int)), .val (.lst (dNs (Q ++ [v]))), .val y, .val (.int (u : Int)), x5] [5]) (rangeD 0 (Q ++ [v]).length) rw
            = .ok (dNs ((List.range' 0 (Q ++ [v]).length).filter fun i => decide ((Q ++ [v])[i]? = some u)), rw) := by
          rw [show rangeD 0 (Q ++ [v]).length = dNs (List.range' 0 (Q ++ [v]).length) from rangeD_dNs 0 _]
          rw [compL_pure (fun d => match d with
            | .int i => decide ((Q ++ [v])[i.toNat]? = some u)
            | _ => false) id _ fun d hd => ?_]
          · unfold dNs
            rw [List.filter_map, List.map_id]
            congr 2
          · unfold dNs at hd
            obtain ⟨i, hi, rfl⟩ := List.mem_map.mp hd
            rw [List.mem_range'_1] at hi
            have hi2 : i < (Q ++ [v]).length := by omega
            have eg : L2.atI (dNs (Q ++ [v])) (i : Int) = some (.int ((Q ++ [v])[i] : Nat)) := by rw [atI_nat_eq, dNs_get, List.getElem?_eq_getElem hi2]; rfl
            refine ⟨_, rfl, ?_, fun _ => ?_⟩
            · simp only [wipeD, List.set_cons_succ, List.set_cons_zero, toB_ap, eBin_ap, eV_ap, List.getElem?_cons_succ, List.getElem?_cons_zero, getV_val, bind_ok, fIx_lst, eg, ofO_some, fEq_int, toBK_bl, Int.toNat_natCast, List.getElem?_eq_getElem hi2, Option.some.injEq]
              congr 2
              exact decide_eq_decide.mpr ⟨fun h => by omega, fun h => by omega⟩
            · simp [wipeD]
        obtain ⟨r, hr⟩ := filter_fst (v := u) (fun i => decide ((Q ++ [v])[i]? = some u)) 0 hin fun i _ => by simp
        rw [hr, Nat.zero_add] at hc
        refine ⟨[.val (dWay w), .val (.int (goal : Int)), .own (.lst (dNs (Q ++ [v]))), .val y, .val (.int (u : Int)), x5], ?_⟩
        have hb : lwBody [.val (dWay w), .val (.int (goal : Int)), .own (.lst (dNs (Q ++ [v]))), .val y, x4, x5] rw = .ok (.ret (.tup [.tup (dNs (Q ++ [v])), .int (fst_ u (Q ++ [v]) : Nat)]), [.val (dWay w), .val (.int (goal : Int)), .own (.lst (dNs (Q ++ [v]))), .val y, .val (.int (u : Int)), x5], rw) := by
          unfold lwBody
          rw [sSeq_ap, hpre .no]
          have hcl : ((dNs (fst_ u (Q ++ [v]) :: r))) = .int (fst_ u (Q ++ [v]) : Nat) :: dNs r := rfl
          have hl9 : (dNs (Q ++ [v])).length ≤ 1000000 := by rw [dNs_len]; omega
          simp only [bind_ok, seqK_next, sSeq_ap, sIf_ap, toB_ap, eUn_ap, eV_ap, List.getElem?_cons_succ, List.getElem?_cons_zero, List.set_cons_succ, List.set_cons_zero, getV_val, isNon_int, ofO_some, toBK_bl, Bool.false_eq_true, if_false, sNext_ap, tBor_ap, eBin_ap, fIn_dNs, hin, decide_true, noX_ok, if_true, sRet_ap, eTup_ap, aCons_ap, aNil_ap, eTupO_ap, eBor_ap, eComp_ap, aRng_ap, eArgs_ap, fLen_lst, rng1_ap, eK_ap]
          rw [if_pos ⟨by omega, by omega⟩]
          simp only [ofO_some, bind_ok, Int.toNat_natCast, rangeD_len, dNs_len]
          rw [if_pos (sl_big (by omega)), hc, hcl]
          simp only [bind_ok, fIx_lst, atI_zero, ofO_some, noX_ok, isSc_int, if_true, List.length_cons, List.length_nil]
          rw [if_pos (sl_big (by decide))]
          rfl
        rw [hb]
        rfl
      · have hb : lwBody [.val (dWay w), .val (.int (goal : Int)), .own (.lst (dNs (Q ++ [v]))), .val y, x4, x5] rw = (if u = goal then .ok (.ret (.tup [.tup (dNs (Q ++ [v] ++ [u])), .str "there"]), [.val (dWay w), .val (.int (goal : Int)), .own (.lst (dNs (Q ++ [v] ++ [u]))), .val y, .val (.int (u : Int)), x5], rw) else .ok (.next, [.val (dWay w), .val (.int (goal : Int)), .own (.lst (dNs (Q ++ [v] ++ [u]))), .val y, .val (.int (u : Int)), x5], rw)) := by
          unfold lwBody
          rw [sSeq_ap, hpre .no]
          have e2 : dNs (Q ++ [v] ++ [u]) = dNs (Q ++ [v]) ++ [.int (u : Int)] := by rw [dNs_append]; rfl
          rw [e2]
          simp only [bind_ok, seqK_next, sSeq_ap, sIf_ap, toB_ap, eUn_ap, eV_ap, List.getElem?_cons_succ, List.getElem?_cons_zero, List.set_cons_succ, List.set_cons_zero, getV_val, isNon_int, ofO_some, toBK_bl, Bool.false_eq_true, if_false, sNext_ap, tBor_ap, eBin_ap, fIn_dNs, hin, decide_false, noX_ok, sMut_ap, tyD_lst, if_true, aCons_ap, aNil_ap, fAppend_lst, hl2, fEq_int]
          have hl5 : 2 ≤ sizeLine := sl_big (by omega)
          by_cases hg : u = goal
          · subst hg; simp [hl5]
          · have hg2 : ¬ ((u : Int) = (goal : Int)) := by omega
            simp [hg, hg2]
        rw [hb]
        by_cases hg : u = goal
        · rw [if_pos hg] at e
          cases e
          rw [if_pos hg, hg]
          exact ⟨_, rfl⟩
        · rw [if_neg hg, if_neg hin] at e
          rw [if_neg hg]
          simp only [bind_ok]
          exact ih (Q ++ [v]) u d (.val y) (.val (.int (u : Int))) x5 ds (h.next h3 hg hin) e (by simp at hf; omega)
end HC
end
section
/-! What comes back, plainly. -/
namespace HC
open PySem PySem.Spec L2 HD
theorem rng1_of' {j : Int} {n : Nat} (h : j = (n : Int)) (hn : n ≤ 100) : rng1 [.int j] = some (rangeD 0 n) := by
  rw [rng1_ap, if_pos ⟨by omega, by omega⟩]; subst h; rfl
theorem rng2_of' {i j : Int} {a b : Nat} (h : i = (a : Int)) (h' : j = (b : Int)) (ha : a ≤ 100) (hb : b ≤ 100) : rng2 [.int i, .int j] = some (rangeD (a : Int) (b - a)) := by
  subst h; subst h'
  rw [rng2_ap, if_pos ⟨⟨by omega, by omega⟩, ⟨by omega, by omega⟩⟩, show ((b : Int) - (a : Int)).toNat = b - a by omega]
theorem compL_map {α : Type} {tg : D → Dl → Option Dl} {c : EM Bool} {e : EM D} {lw : Dl} {rw : Rw} (f : α → D) (h : α → D) : ∀ xs : List α, (∀ x : α, ∃ l1, tg (f x) lw = some l1 ∧ c l1 rw = .ok (true, rw) ∧ e l1 rw = .ok (h x, rw)) → compL tg c e lw (xs.map f) rw = .ok (xs.map h, rw)
  | [], _ => rfl
  | x :: xs, hh => by
    obtain ⟨l1, h1, h2, h3⟩ := hh x
    have ih := compL_map f h xs hh
    rw [List.map_cons, List.map_cons]
    unfold compL
    rw [h1]
    simp only [h2, h3, noX_ok, bind_ok, if_true, ih]
/-- one hop -/
def hopM (w : List (Option Nat)) (goal : Nat) : Option Nat → Option Nat
  | none => none
  | some p => if p = goal then some p else (w[p]?).getD none
def posM (w : List (Option Nat)) (goal : Nat) : Nat → Option Nat
  | 0 => some 0
  | n + 1 => hopM w goal (posM w goal n)
theorem posM_lt {many goal : Nat} {w : List (Option Nat)} (hm : 0 < many) (hw : WayOk many goal w) : ∀ (n p : Nat), posM w goal n = some p → p < many
  | 0, p, h => by cases h; exact hm
  | n + 1, p, h => by
    unfold posM at h
    cases q : posM w goal n with
    | none => rw [q] at h; cases h
    | some r =>
      rw [q] at h
      have hr := posM_lt hm hw n r q
      unfold hopM at h
      simp only [] at h
      split at h
      · cases h; exact hr
      · cases e : w[r]? with
        | none => rw [e] at h; cases h
        | some o =>
          rw [e] at h
          simp at h
          subst h
          exact (hw.go r p e).1
theorem way_get {many goal : Nat} {w : List (Option Nat)} (hw : WayOk many goal w) {p : Nat} (hp : p < many) : w[p]? = some ((w[p]?).getD none) := by
  have h : p < w.length := by rw [hw.len]; exact hp
  rw [List.getElem?_eq_getElem h]
  rfl
/-- the answer -/
def nothingD : D := .tup [.str "nothing"]
def ansM (silent : List Nat) (goal : Nat) : Option Nat → D
  | none => nothingD
  | some p => if p ∈ silent then nothingD else .tup [.str (if p = goal then "there" else "gone"), .int (p : Int)]
theorem fIn_dO (o : Option Nat) (goal : Nat) : fNe (dO (some goal)) (.int (goal : Int)) = some (.bl false) := by simp
def postsBody : SM := (sSeq (sIf (tAnd' (toB (eUn notNonD (eV 3))) (toB (eBin fNe (eV 3) (eV 1)))) (sSet 3 (eBin fIx (eV 0) (eV 3))) sNext) (sMut "list" 4 fAppend (aCons (eV 3) aNil)))
theorem postsBody_ok {many goal : Nat} {w : List (Option Nat)} {rw : Rw} (hm : 0 < many) (hw : WayOk many goal w) (n : Nat) (hn : n ≤ 100) (x2 x5 : Sl) (ds : List D) (hd : ds.length = n) :
    postsBody [.val (dWay w), .val (.int (goal : Int)), x2, .val (dO (posM w goal n)), .own (.lst ds), x5] rw = .ok (.next, [.val (dWay w), .val (.int (goal : Int)), x2, .val (dO (posM w goal (n + 1))), .own (.lst (ds ++ [dO (posM w goal (n + 1))])), x5], rw) := by
  have hl : ds.length < sizeLine := sl_lt (by omega)
  cases q : posM w goal n with
  | none =>
    have e : posM w goal (n + 1) = none := by unfold posM; rw [q]; rfl
    rw [e]
    simp -implicitDefEqProofs only [postsBody, sSeq_ap, sIf_ap, tAnd_ap, toB_ap, eUn_ap, eV_ap, List.getElem?_cons_succ, List.getElem?_cons_zero, getV_val, bind_ok, dO_none, notNon_non, ofO_some, toBK_bl, Bool.false_eq_true, if_false, sNext_ap, seqK_next, sMut_ap, tyD_lst, if_true, aCons_ap, aNil_ap, fAppend_lst, hl, noX_ok, List.set_cons_succ, List.set_cons_zero]
  | some p =>
    have hp := posM_lt hm hw n p q
    by_cases hg : p = goal
    · have e : posM w goal (n + 1) = some p := by unfold posM; rw [q]; unfold hopM; simp [hg]
      rw [e]
      have hg' : (p : Int) = (goal : Int) := by omega
      simp -implicitDefEqProofs only [postsBody, sSeq_ap, sIf_ap, tAnd_ap, toB_ap, eUn_ap, eBin_ap, eV_ap, List.getElem?_cons_succ, List.getElem?_cons_zero, getV_val, bind_ok, dO_some, notNon_int, ofO_some, toBK_bl, if_true, fNe_int, hg', decide_true, Bool.not_true, Bool.false_eq_true, if_false, sNext_ap, seqK_next, sMut_ap, tyD_lst, aCons_ap, aNil_ap, fAppend_lst, hl, noX_ok, List.set_cons_succ, List.set_cons_zero]
    · have e : posM w goal (n + 1) = (w[p]?).getD none := by unfold posM; rw [q]; unfold hopM; simp [hg]
      rw [e]
      have hg' : ¬ (p : Int) = (goal : Int) := by omega
      have ex : L2.atI (w.map dO) (p : Int) = some (dO ((w[p]?).getD none)) := by rw [atI_nat_eq, List.getElem?_map, way_get hw hp]; rfl
      generalize (w[p]?).getD none = o at ex
      simp -implicitDefEqProofs only [postsBody, dWay, sSeq_ap, sIf_ap, tAnd_ap, toB_ap, eUn_ap, eBin_ap, eV_ap, List.getElem?_cons_succ, List.getElem?_cons_zero, getV_val, bind_ok, dO_some, notNon_int, ofO_some, toBK_bl, if_true, fNe_int, hg', decide_false, Bool.not_false, sSet_ap, fIx_tup, ex, seqK_next, sMut_ap, tyD_lst, aCons_ap, aNil_ap, fAppend_lst, hl, noX_ok, List.set_cons_succ, List.set_cons_zero]
def posL (w : List (Option Nat)) (goal : Nat) (a n : Nat) : List D := (List.range' a n).map fun h => dO (posM w goal (h + 1))
theorem posts_loop {many goal : Nat} {w : List (Option Nat)} {rw : Rw} (hm : 0 < many) (hw : WayOk many goal w) (x2 : Sl) : ∀ (ys : List D) (a : Nat) (x5 : Sl) (ds : List D), ds.length = a → a + ys.length ≤ 100 →
    ∃ x5' x3', sLoop (gN 5) postsBody ys [.val (dWay w), .val (.int (goal : Int)), x2, .val (dO (posM w goal a)), .own (.lst ds), x5] rw = .ok (.next, [.val (dWay w), .val (.int (goal : Int)), x2, x3', .own (.lst (ds ++ posL w goal a ys.length)), x5'], rw)
  | [], a, x5, ds, hd, _ => ⟨x5, .val (dO (posM w goal a)), by simp [sLoop, posL]⟩
  | y :: ys, a, x5, ds, hd, hn => by
    simp at hn
    obtain ⟨x5', x3', e⟩ := posts_loop hm hw x2 ys (a + 1) (.val y) (ds ++ [dO (posM w goal (a + 1))]) (by simp [hd]) (by omega)
    refine ⟨x5', x3', ?_⟩
    unfold sLoop
    simp only [gN_ap, List.set_cons_succ, List.set_cons_zero]
    rw [postsBody_ok hm hw a (by omega) x2 (.val y) ds hd]
    simp only [bind_ok]
    rw [e]
    have : ds ++ [dO (posM w goal (a + 1))] ++ posL w goal (a + 1) ys.length = ds ++ posL w goal a (y :: ys).length := by
      rw [List.append_assoc]
      congr 1
    rw [this]
theorem posts_ok {many goal : Nat} {w : List (Option Nat)} {rw : Rw} (hm : 0 < many) (hw : WayOk many goal w) (n : Nat) (hn : n ≤ 60) : d_posts_on [dWay w, .int (goal : Int), .int (n : Int)] rw = .ok (.lst (posL w goal 0 n), rw) := by
  unfold d_posts_on
  rw [dDef3]
  obtain ⟨x5, x3, e⟩ := posts_loop (rw := rw) hm hw (.val (.int (n : Int))) (rangeD 0 n) 0 .no [] rfl (by simp; omega)
  rw [rangeD_len] at e
  have e0 : dO (posM w goal 0) = .int 0 := rfl
  rw [e0] at e
  have eb : b_posts_on = sSeq (sSet 3 (eK (.int 0))) (sSeq (sSetO 4 (eLst aNil)) (sSeq (sFor (aRng rng1 (aCons (eV 2) aNil)) (gN 5) postsBody) (sRetV 4))) := rfl
  have hr : rng1 [.int (n : Int)] = some (rangeD 0 n) := rng1_of' rfl (by omega)
  have hz : (0 : Nat) ≤ sizeLine := Nat.zero_le _
  rw [eb]
  simp -implicitDefEqProofs only [List.replicate, sSeq_ap, sSet_ap, eK_ap, bind_ok, List.set_cons_succ, List.set_cons_zero, seqK_next, sSetO_ap, eLst_ap, aNil_ap, List.length_nil, hz, if_true, ofO_some, sFor_ap, aRng_ap, aCons_ap, eV_ap, List.getElem?_cons_succ, List.getElem?_cons_zero, getV_val, hr, e, sRetV_ap, List.nil_append, dFin_ret]
theorem answer_ok {silent : List Nat} {goal : Nat} {o : Option Nat} {rw : Rw} (l0 : silent.length ≤ 6) : d_answer_of [.tup (dNs silent), .int (goal : Int), dO o] rw = .ok (ansM silent goal o, rw) := by
  unfold d_answer_of
  rw [dDef3]
  cases o with
  | none =>
    simp -implicitDefEqProofs only [b_answer_of, List.replicate, sSeq_ap, sIf_ap, tOr_ap, toB_ap, eUn_ap, eV_ap, List.getElem?_cons_succ, List.getElem?_cons_zero, getV_val, bind_ok, dO_none, isNon_non, ofO_some, toBK_bl, if_true, sRet_ap, eK_ap, seqK_ret, dFin_ret, ansM, nothingD]
  | some p =>
    by_cases hs : p ∈ silent
    · simp -implicitDefEqProofs only [b_answer_of, List.replicate, sSeq_ap, sIf_ap, tOr_ap, toB_ap, eUn_ap, eBin_ap, eV_ap, List.getElem?_cons_succ, List.getElem?_cons_zero, getV_val, bind_ok, dO_some, isNon_int, ofO_some, toBK_bl, Bool.false_eq_true, if_false, fIn_dNsT, hs, decide_true, if_true, sRet_ap, eK_ap, seqK_ret, dFin_ret, ansM, nothingD]
    · have h2 : 2 ≤ sizeLine := sl_big (by decide)
      by_cases hg : p = goal
      · subst hg
        simp -implicitDefEqProofs only [b_answer_of, List.replicate, sSeq_ap, sIf_ap, tOr_ap, toB_ap, eUn_ap, eBin_ap, eV_ap, List.getElem?_cons_succ, List.getElem?_cons_zero, getV_val, bind_ok, dO_some, isNon_int, ofO_some, toBK_bl, Bool.false_eq_true, if_false, fIn_dNsT, hs, decide_false, sNext_ap, seqK_next, sRet_ap, eTup_ap, aCons_ap, aNil_ap, eIf_ap, fEq_int, decide_true, if_true, eK_ap, List.length_cons, List.length_nil, Nat.zero_add, Nat.reduceAdd, h2, dFin_ret, ansM]
      · have hg' : ¬ (p : Int) = (goal : Int) := by omega
        simp -implicitDefEqProofs only [b_answer_of, List.replicate, sSeq_ap, sIf_ap, tOr_ap, toB_ap, eUn_ap, eBin_ap, eV_ap, List.getElem?_cons_succ, List.getElem?_cons_zero, getV_val, bind_ok, dO_some, isNon_int, ofO_some, toBK_bl, Bool.false_eq_true, if_false, fIn_dNsT, hs, hg, hg', decide_false, sNext_ap, seqK_next, sRet_ap, eTup_ap, aCons_ap, aNil_ap, eIf_ap, fEq_int, decide_true, if_true, eK_ap, List.length_cons, List.length_nil, Nat.zero_add, Nat.reduceAdd, h2, dFin_ret, ansM]
def ansL (silent : List Nat) (w : List (Option Nat)) (goal n : Nat) : List D := (List.range' 0 n).map fun h => ansM silent goal (posM w goal (h + 1))
theorem answers_of_ok {silent : List Nat} {many goal : Nat} {w : List (Option Nat)} {rw : Rw} (hm : 0 < many) (hw : WayOk many goal w) (l0 : silent.length ≤ 6) (n : Nat) (hn : n ≤ 60) :
    d_answers_of [.tup (dNs silent), dWay w, .int (goal : Int), .int (n : Int)] rw = .ok (.lst (ansL silent w goal n), rw) := by
  unfold d_answers_of
  rw [dDef4]
  have e1 := posts_ok (rw := rw) hm hw n hn
  have e2 : ∀ xs : List (Option Nat), compL (gN 4) cYes (eCall d_answer_of (aCons (eV 0) (aCons (eV 2) (aCons (eV 4) aNil)))) [.val (.tup (dNs silent)), .val (dWay w), .val (.int (goal : Int)), .val (.int (n : Int)), .no] (xs.map dO) rw = .ok (xs.map (ansM silent goal), rw) := fun xs => compL_map dO (ansM silent goal) xs fun x => ⟨[.val (.tup (dNs silent)), .val (dWay w), .val (.int (goal : Int)), .val (.int (n : Int)), .val (dO x)], rfl, rfl, by
      have ea := answer_ok (goal := goal) (o := x) (rw := rw) l0
      simp -implicitDefEqProofs only [eCall_ap, aCons_ap, aNil_ap, eV_ap, List.getElem?_cons_succ, List.getElem?_cons_zero, getV_val, bind_ok, ea]⟩
  have e3 := e2 ((List.range' 0 n).map fun h => posM w goal (h + 1))
  have e4 : posL w goal 0 n = ((List.range' 0 n).map fun h => posM w goal (h + 1)).map dO := by rw [List.map_map]; rfl
  have e5 : ansL silent w goal n = ((List.range' 0 n).map fun h => posM w goal (h + 1)).map (ansM silent goal) := by rw [List.map_map]; rfl
  have hl : (ansL silent w goal n).length ≤ sizeLine := sl_big (by simp [ansL]; omega)
  rw [e4] at e1
  rw [← e5] at e3
  unfold b_answers_of
  simp -implicitDefEqProofs only [List.replicate, sRet_ap, eComp_ap, aItems_ap, eCall_ap, aCons_ap, aNil_ap, eV_ap, List.getElem?_cons_succ, List.getElem?_cons_zero, getV_val, bind_ok, e1, itemsOf_lst, ofO_some]
  have hl2 : (((List.range' 0 n).map fun h => posM w goal (h + 1)).map dO).length ≤ sizeLine := sl_big (by simp; omega)
  have hw2 : wipeD [.val (.tup (dNs silent)), .val (dWay w), .val (.int (goal : Int)), .val (.int (n : Int)), .no] [4] = [.val (.tup (dNs silent)), .val (dWay w), .val (.int (goal : Int)), .val (.int (n : Int)), .no] := rfl
  simp -implicitDefEqProofs only [hw2, e3, bind_ok, hl2, if_true, dFin_ret]
end HC
end
section
namespace HC
open PySem PySem.Spec L2 HD
/-- what the web answers -/
structure WayAt (W : Web) (goal : Nat) (w : List (Option Nat)) : Prop where
  lo : 1 ≤ goal
  hi : goal < W.many
  at_ : W.ways[goal - 1]? = some w
  ok : WayOk W.many goal w
theorem WebOk.wayAt {W : Web} (h : WebOk W) {goal : Nat} (h1 : 1 ≤ goal) (h2 : goal < W.many) : ∃ w, WayAt W goal w := by
  obtain ⟨w, a, b⟩ := h.way goal h1 h2
  exact ⟨w, h1, h2, a, b⟩
theorem WayAt.ix {W : Web} {goal : Nat} {w : List (Option Nat)} (h : WayAt W goal w) : L2.atI (W.ways.map dWay) ((goal : Int) - 1) = some (dWay w) := by
  rw [show (goal : Int) - 1 = ((goal - 1 : Nat) : Int) by have := h.lo; omega, atI_nat_eq, List.getElem?_map, h.at_]; rfl
theorem ix0 (W : Web) : fIx (dWeb W) (.int 0) = some (.int (W.many : Int)) := by simp [dWeb]
theorem ix1 (W : Web) : fIx (dWeb W) (.int 1) = some (.tup (dNs W.silent)) := by simp [dWeb]
theorem ix2 (W : Web) : fIx (dWeb W) (.int 2) = some (.tup (W.ways.map dWay)) := by simp [dWeb]
theorem ansL_len {silent : List Nat} {w : List (Option Nat)} {goal n : Nat} : (ansL silent w goal n).length = n := by simp [ansL]
theorem ansL_get {silent : List Nat} {w : List (Option Nat)} {goal n i : Nat} (h : i < n) : (ansL silent w goal n)[i]? = some (ansM silent goal (posM w goal (i + 1))) := by
  unfold ansL
  rw [List.getElem?_map, List.getElem?_range' h]
  simp
theorem ansL_last {silent : List Nat} {w : List (Option Nat)} {goal n : Nat} : L2.atI (ansL silent w goal (n + 1)) (-1) = some (ansM silent goal (posM w goal (n + 1))) := by
  have e : ansL silent w goal (n + 1) = ansL silent w goal n ++ [ansM silent goal (posM w goal (n + 1))] := by
    unfold ansL
    rw [List.range'_concat, List.map_append]
    simp
  rw [e]
  exact atI_last _ _
theorem asked_ok {W : Web} {goal n : Nat} {w : List (Option Nat)} {rw : Rw} (h : WebOk W) (g : WayAt W goal w) (h1 : 1 ≤ n) (h2 : n ≤ 60) :
    d_asked [dWeb W, .int (goal : Int), .int (n : Int)] rw = .ok (ansM W.silent goal (posM w goal n), rw) := by
  have e1 := need_web_ok (rw := rw) h
  have e2 := need_ask_ok (rw := rw) (hops := (n : Int)) g.lo g.hi (by omega) (by omega)
  have e3 := answers_of_ok (rw := rw) (by have := h.lo; omega) g.ok h.silLen n h2
  obtain ⟨k, rfl⟩ : ∃ k, n = k + 1 := ⟨n - 1, by omega⟩
  have e4 := ansL_last (silent := W.silent) (w := w) (goal := goal) (n := k)
  have i0 := ix0 W
  have i1 := ix1 W
  have i2 := ix2 W
  have ig := g.ix
  generalize dWeb W = DW at *
  unfold d_asked
  rw [dDef3]
  simp -implicitDefEqProofs only [b_asked, List.replicate, sSeq_ap, sExpr_ap, eCall_ap, aCons_ap, aNil_ap, eV_ap, eK_ap, eBin_ap, eUn_ap, List.getElem?_cons_succ, List.getElem?_cons_zero, getV_val, bind_ok, e1, seqK_next, i0, i1, i2, ofO_some, e2, fSub_int, fIx_tup, ig, sRet_ap, e3, fNeg_int, fIx_lst, e4, dFin_ret]
theorem steps_to_ok {m : Nat} {rw : Rw} (h : m ≤ 6) : d_steps_to [.int (m : Int)] rw = .ok (.int ((2 * m : Nat) : Int), rw) := by
  unfold d_steps_to
  rw [dDef1]
  have e : fMul (.int 2) (.int (m : Int)) = some (.int ((2 * m : Nat) : Int)) := by
    rw [fMul_int, if_pos ⟨by omega, by omega⟩]
    congr 2
  simp -implicitDefEqProofs only [b_steps_to, List.replicate, sRet_ap, eBin_ap, eK_ap, eV_ap, List.getElem?_cons_zero, getV_val, bind_ok, e, ofO_some, dFin_ret]
theorem answers_ok {W : Web} {goal : Nat} {w : List (Option Nat)} {rw : Rw} (h : WebOk W) (g : WayAt W goal w) :
    d_answers [dWeb W, .int (goal : Int)] rw = .ok (.lst (ansL W.silent w goal (2 * W.many)), rw) := by
  have e1 := need_web_ok (rw := rw) h
  have e2 := need_ask_ok (rw := rw) (hops := 1) g.lo g.hi (by omega) (by omega)
  have e3 := answers_of_ok (rw := rw) (by have := h.lo; omega) g.ok h.silLen (2 * W.many) (by have := h.hi; omega)
  have e5 := steps_to_ok (rw := rw) h.hi
  have i0 := ix0 W
  have i1 := ix1 W
  have i2 := ix2 W
  have ig := g.ix
  generalize dWeb W = DW at *
  unfold d_answers
  rw [dDef2]
  simp -implicitDefEqProofs only [b_answers, List.replicate, sSeq_ap, sExpr_ap, eCall_ap, aCons_ap, aNil_ap, eV_ap, eK_ap, eBin_ap, eUn_ap, List.getElem?_cons_succ, List.getElem?_cons_zero, getV_val, bind_ok, e1, seqK_next, i0, i1, i2, ofO_some, e2, fSub_int, fIx_tup, ig, sRet_ap, e5, e3, dFin_ret]
/-! ### the law's own asking -/
theorem posM_stop {w : List (Option Nat)} {goal n : Nat} (h : posM w goal n = none ∨ posM w goal n = some goal) : ∀ k, posM w goal (n + k) = posM w goal n
  | 0 => rfl
  | k + 1 => by
    have ih := posM_stop h k
    show hopM w goal (posM w goal (n + k)) = _
    rw [ih]
    rcases h with h | h
    · rw [h]; rfl
    · rw [h]; unfold hopM; simp
def lawAskC : EM Bool := (tAnd' (toB (eBin fGt (eV 2) (eK (.int 0)))) (tAnd' (toB (eUn notNonD (eV 6))) (toB (eBin fNe (eV 6) (eV 1)))))
def lawAskB : SM := (sSeq (sSet 6 (eBin fIx (eBin fIx (eV 5) (eBin fSub (eV 1) (eK (.int 1)))) (eV 6))) (sSet 2 (eBin fSub (eV 2) (eK (.int 1)))))
theorem la_while {W : Web} {goal : Nat} {w : List (Option Nat)} {rw : Rw} (h : WebOk W) (g : WayAt W goal w) (x0 x3 x4 : Sl) (n : Nat) : ∀ (k m fuel : Nat), m + k = n → k < fuel →
    ∃ x2', sWhile lawAskC lawAskB fuel [x0, .val (.int (goal : Int)), .val (.int (k : Int)), x3, x4, .val (.tup (W.ways.map dWay)), .val (dO (posM w goal m))] rw = .ok (.next, [x0, .val (.int (goal : Int)), x2', x3, x4, .val (.tup (W.ways.map dWay)), .val (dO (posM w goal n))], rw)
  | 0, m, fuel, hn, hf => by
    obtain ⟨f, rfl⟩ : ∃ f, fuel = f + 1 := ⟨fuel - 1, by omega⟩
    have : m = n := by omega
    subst this
    refine ⟨.val (.int ((0 : Nat) : Int)), ?_⟩
    unfold sWhile
    have hgt : fGt (.int ((0 : Nat) : Int)) (.int 0) = some (.bl false) := rfl
    simp -implicitDefEqProofs only [lawAskC, tAnd_ap, toB_ap, eBin_ap, eV_ap, eK_ap, List.getElem?_cons_succ, List.getElem?_cons_zero, getV_val, bind_ok, hgt, ofO_some, toBK_bl, Bool.false_eq_true, if_false]
  | k + 1, m, fuel, hn, hf => by
    obtain ⟨f, rfl⟩ : ∃ f, fuel = f + 1 := ⟨fuel - 1, by omega⟩
    unfold sWhile
    have hgt : fGt (.int ((k + 1 : Nat) : Int)) (.int 0) = some (.bl true) := by
      unfold fGt
      rw [fCmp_int]
      simp
    cases q : posM w goal m with
    | none =>
      have := posM_stop (.inl q) (k + 1)
      rw [hn] at this
      rw [this, q]
      refine ⟨.val (.int ((k + 1 : Nat) : Int)), ?_⟩
      simp -implicitDefEqProofs only [lawAskC, tAnd_ap, toB_ap, eBin_ap, eUn_ap, eV_ap, eK_ap, List.getElem?_cons_succ, List.getElem?_cons_zero, getV_val, bind_ok, hgt, ofO_some, toBK_bl, Bool.false_eq_true, if_false, if_true, dO_none, notNon_non]
    | some p =>
      by_cases hg : p = goal
      · have := posM_stop (.inr (by rw [q, hg])) (k + 1)
        rw [hn] at this
        rw [this, q]
        refine ⟨.val (.int ((k + 1 : Nat) : Int)), ?_⟩
        have hg' : (p : Int) = (goal : Int) := by omega
        simp -implicitDefEqProofs only [lawAskC, tAnd_ap, toB_ap, eBin_ap, eUn_ap, eV_ap, eK_ap, List.getElem?_cons_succ, List.getElem?_cons_zero, getV_val, bind_ok, hgt, ofO_some, toBK_bl, Bool.false_eq_true, if_false, if_true, dO_some, notNon_int, fNe_int, hg', decide_true, Bool.not_true]
      · have hm0 : 0 < W.many := by have := h.lo; omega
        have hp := posM_lt hm0 g.ok m p q
        have e : posM w goal (m + 1) = (w[p]?).getD none := by show hopM w goal (posM w goal m) = _; rw [q]; unfold hopM; simp [hg]
        obtain ⟨x2', ih⟩ := la_while h g x0 x3 x4 n k (m + 1) f (by omega) (by omega)
        rw [e] at ih
        refine ⟨x2', ?_⟩
        have ex : L2.atI (w.map dO) (p : Int) = some (dO ((w[p]?).getD none)) := by rw [atI_nat_eq, List.getElem?_map, way_get g.ok hp]; rfl
        have hg' : ¬ (p : Int) = (goal : Int) := by omega
        have es : fSub (.int ((k + 1 : Nat) : Int)) (.int 1) = some (.int (k : Int)) := by
          rw [fSub_int]
          congr 2
          omega
        have ig := g.ix
        have ew : dWay w = .tup (w.map dO) := rfl
        have hc : lawAskC [x0, .val (.int (goal : Int)), .val (.int ((k + 1 : Nat) : Int)), x3, x4, .val (.tup (W.ways.map dWay)), .val (dO (some p))] rw = .ok (true, rw) := by
          simp -implicitDefEqProofs only [lawAskC, tAnd_ap, toB_ap, eBin_ap, eUn_ap, eV_ap, eK_ap, List.getElem?_cons_succ, List.getElem?_cons_zero, getV_val, bind_ok, hgt, ofO_some, toBK_bl, if_true, dO_some, notNon_int, fNe_int, hg', decide_false, Bool.not_false]
        have hb : lawAskB [x0, .val (.int (goal : Int)), .val (.int ((k + 1 : Nat) : Int)), x3, x4, .val (.tup (W.ways.map dWay)), .val (dO (some p))] rw = .ok (.next, [x0, .val (.int (goal : Int)), .val (.int (k : Int)), x3, x4, .val (.tup (W.ways.map dWay)), .val (dO ((w[p]?).getD none))], rw) := by
          generalize (w[p]?).getD none = o at ex
          simp -implicitDefEqProofs only [lawAskB, sSeq_ap, sSet_ap, eBin_ap, eV_ap, eK_ap, List.getElem?_cons_succ, List.getElem?_cons_zero, getV_val, bind_ok, fSub_int, ofO_some, fIx_tup, ig, ew, dO_some, ex, List.set_cons_succ, List.set_cons_zero, seqK_next]
          rw [fSub_int] at es
          rw [Option.some.inj es]
        rw [hc]
        simp only [bind_ok, if_true]
        rw [hb]
        exact ih
theorem nothing_eq : nothingD = .tup [.str "nothing"] := rfl
theorem law_asked_ok {W : Web} {goal n : Nat} {w : List (Option Nat)} {rw : Rw} (h : WebOk W) (g : WayAt W goal w) (h2 : n ≤ 60) :
    d__law_asked [dWeb W, .int (goal : Int), .int (n : Int)] rw = .ok (ansM W.silent goal (posM w goal n), rw) := by
  unfold d__law_asked
  rw [dDef3]
  obtain ⟨x2', e⟩ := la_while (rw := rw) h g (.val (dWeb W)) (.val (.int (W.many : Int))) (.val (.tup (dNs W.silent))) n n 0 1000 (by omega) (by omega)
  have e0 : dO (posM w goal 0) = .int 0 := rfl
  rw [e0] at e
  have eb : b__law_asked = sSeq (sAsg (eV 0) (gT 3 (gsCons (gN 3) (gsCons (gN 4) (gsCons (gN 5) gsNil))))) (sSeq (sSet 6 (eK (.int 0))) (sSeq (sWhile lawAskC lawAskB 1000) (sSeq (sIf (tOr' (toB (eUn isNonD (eV 6))) (toB (eBin (fIn false) (eV 6) (eV 4)))) (sRet (eTup (aCons (eK (.str "nothing")) aNil))) sNext) (sRet (eIf (toB (eBin fEq (eV 6) (eV 1))) (eTup (aCons (eK (.str "there")) (aCons (eV 1) aNil))) (eTup (aCons (eK (.str "gone")) (aCons (eV 6) aNil)))))))) := rfl
  have h1l : 1 ≤ sizeLine := sl_big (by decide)
  have h2l : 2 ≤ sizeLine := sl_big (by decide)
  have ew : dWeb W = .tup [.int (W.many : Int), .tup (dNs W.silent), .tup (W.ways.map dWay)] := rfl
  have ha : sAsg (eV 0) (gT 3 (gsCons (gN 3) (gsCons (gN 4) (gsCons (gN 5) gsNil)))) [.val (dWeb W), .val (.int (goal : Int)), .val (.int (n : Int)), .no, .no, .no, .no] rw = .ok (.next, [.val (dWeb W), .val (.int (goal : Int)), .val (.int (n : Int)), .val (.int (W.many : Int)), .val (.tup (dNs W.silent)), .val (.tup (W.ways.map dWay)), .no], rw) := rfl
  rw [eb]
  simp -implicitDefEqProofs only [List.replicate]
  rw [sSeq_ap, ha]
  simp -implicitDefEqProofs only [bind_ok, seqK_next]
  rw [sSeq_ap, sSet_ap, eK_ap]
  simp -implicitDefEqProofs only [bind_ok, seqK_next, List.set_cons_succ, List.set_cons_zero]
  rw [sSeq_ap, e]
  simp -implicitDefEqProofs only [bind_ok, seqK_next]
  cases posM w goal n with
  | none =>
    simp -implicitDefEqProofs only [sSeq_ap, sIf_ap, tOr_ap, toB_ap, eUn_ap, eV_ap, List.getElem?_cons_succ, List.getElem?_cons_zero, getV_val, bind_ok, dO_none, isNon_non, ofO_some, toBK_bl, if_true, sRet_ap, eTup_ap, aCons_ap, aNil_ap, eK_ap, List.length_cons, List.length_nil, Nat.zero_add, h1l, seqK_ret, dFin_ret, ansM, nothing_eq]
  | some p =>
    by_cases hs : p ∈ W.silent
    · simp -implicitDefEqProofs only [sSeq_ap, sIf_ap, tOr_ap, toB_ap, eUn_ap, eBin_ap, eV_ap, List.getElem?_cons_succ, List.getElem?_cons_zero, getV_val, bind_ok, dO_some, isNon_int, Bool.false_eq_true, if_false, fIn_dNsT, hs, decide_true, ofO_some, toBK_bl, if_true, sRet_ap, eTup_ap, aCons_ap, aNil_ap, eK_ap, List.length_cons, List.length_nil, Nat.zero_add, h1l, seqK_ret, dFin_ret, ansM, nothing_eq]
    · by_cases hg : p = goal
      · subst hg
        simp -implicitDefEqProofs only [sSeq_ap, sIf_ap, tOr_ap, toB_ap, eUn_ap, eBin_ap, eV_ap, List.getElem?_cons_succ, List.getElem?_cons_zero, getV_val, bind_ok, dO_some, isNon_int, Bool.false_eq_true, if_false, fIn_dNsT, hs, decide_false, ofO_some, toBK_bl, sNext_ap, seqK_next, sRet_ap, eIf_ap, fEq_int, decide_true, if_true, eTup_ap, aCons_ap, aNil_ap, eK_ap, List.length_cons, List.length_nil, Nat.zero_add, Nat.reduceAdd, h2l, dFin_ret, ansM]
      · have hg' : ¬ (p : Int) = (goal : Int) := by omega
        simp -implicitDefEqProofs only [sSeq_ap, sIf_ap, tOr_ap, toB_ap, eUn_ap, eBin_ap, eV_ap, List.getElem?_cons_succ, List.getElem?_cons_zero, getV_val, bind_ok, dO_some, isNon_int, Bool.false_eq_true, if_false, fIn_dNsT, hs, hg, hg', decide_false, ofO_some, toBK_bl, sNext_ap, seqK_next, sRet_ap, eIf_ap, fEq_int, decide_true, if_true, eTup_ap, aCons_ap, aNil_ap, eK_ap, List.length_cons, List.length_nil, Nat.zero_add, Nat.reduceAdd, h2l, dFin_ret, ansM]
end HC
end
section
namespace HC
open PySem PySem.Spec L2 HD
theorem compL_mapM {α : Type} {tg : D → Dl → Option Dl} {c : EM Bool} {e : EM D} {lw : Dl} {rw : Rw} (f : α → D) (h : α → D) : ∀ xs : List α, (∀ x ∈ xs, ∃ l1, tg (f x) lw = some l1 ∧ c l1 rw = .ok (true, rw) ∧ e l1 rw = .ok (h x, rw)) → compL tg c e lw (xs.map f) rw = .ok (xs.map h, rw)
  | [], _ => rfl
  | x :: xs, hh => by
    obtain ⟨l1, h1, h2, h3⟩ := hh x (by simp)
    have ih := compL_mapM f h xs fun y hy => hh y (List.mem_cons_of_mem _ hy)
    rw [List.map_cons, List.map_cons]
    unfold compL
    rw [h1]
    simp only [h2, h3, noX_ok, bind_ok, if_true, ih]
theorem ansL_one {silent : List Nat} {w : List (Option Nat)} {goal n : Nat} : (List.range' 1 n).map (fun k => ansM silent goal (posM w goal k)) = ansL silent w goal n := by
  apply List.ext_getElem?
  intro i
  unfold ansL
  rw [List.getElem?_map, List.getElem?_map]
  by_cases hi : i < n
  · rw [List.getElem?_range' hi, List.getElem?_range' hi]
    simp [Nat.add_comm]
  · rw [List.getElem?_eq_none (by simp; omega), List.getElem?_eq_none (by simp; omega)]; rfl
theorem dNs_map (xs : List Nat) : dNs xs = xs.map fun (n : Nat) => D.int (n : Int) := rfl
theorem law_answers_ok {W : Web} {goal n : Nat} {w : List (Option Nat)} {rw : Rw} (h : WebOk W) (g : WayAt W goal w) (h2 : n ≤ 60) :
    d__law_answers [dWeb W, .int (goal : Int), .int (n : Int)] rw = .ok (.lst (ansL W.silent w goal n), rw) := by
  unfold d__law_answers
  rw [dDef3]
  have hr : rng2 [.int 1, .int ((n : Int) + 1)] = some ((List.range' 1 n).map fun (n : Nat) => D.int (n : Int)) := by
    have z := rng2_of' (i := 1) (j := (n : Int) + 1) (a := 1) (b := n + 1) rfl (by omega) (by decide) (by omega)
    rw [z, ← dNs_map, rangeD_dNs, Nat.add_sub_cancel]
  have e2 := compL_mapM (tg := gN 3) (c := cYes) (e := eCall d__law_asked (aCons (eV 0) (aCons (eV 1) (aCons (eV 3) aNil)))) (lw := [.val (dWeb W), .val (.int (goal : Int)), .val (.int (n : Int)), .no]) (rw := rw) (fun (n : Nat) => D.int (n : Int)) (fun k => ansM W.silent goal (posM w goal k)) (List.range' 1 n) fun k hk => ⟨[.val (dWeb W), .val (.int (goal : Int)), .val (.int (n : Int)), .val (.int (k : Int))], rfl, rfl, by
    have hk2 := List.mem_range'_1.mp hk
    have ea := law_asked_ok (rw := rw) (n := k) h g (by omega)
    simp -implicitDefEqProofs only [eCall_ap, aCons_ap, aNil_ap, eV_ap, List.getElem?_cons_succ, List.getElem?_cons_zero, getV_val, bind_ok, ea]⟩
  rw [ansL_one] at e2
  have hl2 : ((List.range' 1 n).map fun (n : Nat) => D.int (n : Int)).length ≤ sizeLine := sl_big (by simp; omega)
  have hw2 : wipeD [.val (dWeb W), .val (.int (goal : Int)), .val (.int (n : Int)), .no] [3] = [.val (dWeb W), .val (.int (goal : Int)), .val (.int (n : Int)), .no] := rfl
  unfold b__law_answers
  simp -implicitDefEqProofs only [List.replicate, sRet_ap, eComp_ap, aRng_ap, aCons_ap, aNil_ap, eK_ap, eBin_ap, eV_ap, List.getElem?_cons_succ, List.getElem?_cons_zero, getV_val, bind_ok, fAdd_int, ofO_some, hr, hl2, if_true, hw2, e2, dFin_ret]
theorem fit_ansM (n : Nat) (silent : List Nat) (goal : Nat) (o : Option Nat) : fit (n + 1) (ansM silent goal o) = true := by
  have h1 : fit (n + 1) nothingD = true := by
    unfold nothingD
    rw [fit_tup]
    simp only [List.all_cons, List.all_nil, fit_str]
    decide +kernel
  cases o with
  | none => exact h1
  | some p =>
    unfold ansM
    simp only []
    split
    · exact h1
    · rw [fit_tup]
      simp only [List.all_cons, List.all_nil, fit_str, fit_int]
      split <;> decide +kernel
theorem fit_ansL (n : Nat) (silent : List Nat) (w : List (Option Nat)) (goal k : Nat) : fit (n + 2) (.lst (ansL silent w goal k)) = true := by
  rw [fit_lst, List.all_eq_true]
  intro x hx
  unfold ansL at hx
  obtain ⟨i, _, rfl⟩ := List.mem_map.mp hx
  exact fit_ansM _ _ _ _
theorem len_ansM (n : Nat) (silent : List Nat) (goal : Nat) (o : Option Nat) : lenOk (n + 2) (ansM silent goal o) = true := by
  have h1 : lenOk (n + 2) nothingD = true := by
    unfold nothingD lenOk
    cases n <;> rfl
  cases o with
  | none => exact h1
  | some p =>
    unfold ansM
    simp only []
    split
    · exact h1
    · unfold lenOk
      simp only [List.all_cons, List.all_nil]
      cases n <;> rfl
theorem len_ansL (silent : List Nat) (w : List (Option Nat)) (goal k : Nat) (h : k ≤ 100) : lenOk 5 (.lst (ansL silent w goal k)) = true := by
  unfold lenOk
  rw [Bool.and_eq_true]
  refine ⟨decide_eq_true (by rw [ansL_len]; omega), ?_⟩
  rw [List.all_eq_true]
  intro x hx
  unfold ansL at hx
  obtain ⟨i, _, rfl⟩ := List.mem_map.mp hx
  exact len_ansM 2 _ _ _
theorem alike_ans {silent : List Nat} {w : List (Option Nat)} {goal k : Nat} {rw : Rw} (h : k ≤ 100) : d__law_alike [.lst (ansL silent w goal k), .lst (ansL silent w goal k)] rw = .ok (.bl true, rw) :=
  alike_ok (fit_ansL 3 _ _ _ _) (len_ansL _ _ _ _ h)
@[simp] theorem pNone_ap (l : Dl) (rw : Rw) : pNone l rw = .ok (none, rw) := rfl
@[simp] theorem pSome_ap (g : EM D) (l : Dl) (rw : Rw) : pSome g l rw = (g l rw).bind fun p => match p.1 with
  | .int i => .ok (some i, p.2)
  | _ => .stuck := rfl
@[simp] theorem eSl_ap (g : EM D) (lo hi : EM (Option Int)) (l : Dl) (rw : Rw) : eSl g lo hi l rw = (g l rw).bind fun p => (lo l p.2).bind fun q => (hi l q.2).bind fun r => ofO (fSl p.1 q.1 r.1) r.2 := rfl
theorem sIx_nat {n d i : Nat} (h : i ≤ n) : HT.sIx n d (some (i : Int)) = i := by
  rw [HT.sIx_nat]
  omega
theorem cut_to {xs : List D} {k : Nat} (h : k ≤ xs.length) : cutD xs none (some (k : Int)) = xs.take k := by
  unfold cutD
  rw [sIx_nat h]
  simp [HT.sIx]
theorem cut_from {xs : List D} {k : Nat} (h : k ≤ xs.length) : cutD xs (some (k : Int)) none = xs.drop k := by
  unfold cutD
  rw [sIx_nat h]
  show List.take (xs.length - k) (List.drop k xs) = _
  exact List.take_of_length_le (by simp)
theorem ansL_take {silent : List Nat} {w : List (Option Nat)} {goal n k : Nat} (h : k ≤ n) : (ansL silent w goal n).take k = ansL silent w goal k := by
  apply List.ext_getElem?
  intro i
  rw [List.getElem?_take]
  by_cases hi : i < k
  · rw [if_pos hi, ansL_get (by omega), ansL_get hi]
  · rw [if_neg hi, List.getElem?_eq_none (by rw [ansL_len]; omega)]
end HC
end
section
/-! Two trails that agree for twice as many hops as posts agree for ever. -/
namespace HC
open PySem PySem.Spec L2 HD
theorem per_two {α : Type} (a b : Nat → α) (μ p q N : Nat) (ha : ∀ i, μ ≤ i → a (i + p) = a i) (hb : ∀ i, μ ≤ i → b (i + q) = b i) (hp : 1 ≤ p) (hq : 1 ≤ q) (hN : μ + p + q ≤ N) (h : ∀ i, i < N → a i = b i) : ∀ i, a i = b i := by
  intro i
  induction i using Nat.strongRecOn with
  | _ i ih =>
    by_cases hi : i < N
    · exact h i hi
    · have e1 : a i = a (i - p) := by have := ha (i - p) (by omega); rwa [show i - p + p = i by omega] at this
      have e2 : b (i - p) = b (i - p - q) := by have := hb (i - p - q) (by omega); rwa [show i - p - q + q = i - p by omega] at this
      have e3 : a (i - q) = a (i - p - q) := by have := ha (i - p - q) (by omega); rwa [show i - p - q + p = i - q by omega] at this
      have e4 : b i = b (i - q) := by have := hb (i - q) (by omega); rwa [show i - q + q = i by omega] at this
      rw [e1, ih (i - p) (by omega), e2, ← ih (i - p - q) (by omega), ← e3, ih (i - q) (by omega), ← e4]
theorem posM_add {w : List (Option Nat)} {goal i j : Nat} (h : posM w goal i = posM w goal j) : ∀ k, posM w goal (i + k) = posM w goal (j + k)
  | 0 => h
  | k + 1 => by
    have ih := posM_add h k
    show hopM w goal (posM w goal (i + k)) = hopM w goal (posM w goal (j + k))
    rw [ih]
theorem not_nodup_ex {α : Type} [DecidableEq α] : ∀ l : List α, ¬ l.Nodup → ∃ i j, i < j ∧ j < l.length ∧ l[i]? = l[j]?
  | [], h => (h List.nodup_nil).elim
  | x :: xs, h => by
    by_cases hx : x ∈ xs
    · obtain ⟨j, hj, e⟩ := List.getElem_of_mem hx
      exact ⟨0, j + 1, by omega, by simp; exact hj, by simp [hj, e]⟩
    · have h2 : ¬ xs.Nodup := fun h2 => h (List.nodup_cons.mpr ⟨hx, h2⟩)
      obtain ⟨i, j, h3, h4, h5⟩ := not_nodup_ex xs h2
      exact ⟨i + 1, j + 1, by omega, by simp; exact h4, by simpa using h5⟩
/-- a trail comes round, or ends, soon -/
theorem posM_round {many goal : Nat} {w : List (Option Nat)} (hm : 0 < many) (hg : goal < many) (hw : WayOk many goal w) : ∃ μ p, 1 ≤ p ∧ μ + p ≤ many ∧ ∀ i, μ ≤ i → posM w goal (i + p) = posM w goal i := by
  by_cases hs : ∃ i, i < many ∧ (posM w goal i = none ∨ posM w goal i = some goal)
  · obtain ⟨i, hi, h⟩ := hs
    refine ⟨i, 1, by omega, by omega, fun j hj => ?_⟩
    have h1 := posM_stop h (j - i)
    have h2 := posM_stop h (j + 1 - i)
    rw [show i + (j - i) = j by omega] at h1
    rw [show i + (j + 1 - i) = j + 1 by omega] at h2
    rw [h1, h2]
  · have hv : ∀ i, i < many → ∃ p, posM w goal i = some p ∧ p < many ∧ p ≠ goal := fun i hi => by
      cases q : posM w goal i with
      | none => exact (hs ⟨i, hi, .inl q⟩).elim
      | some p => exact ⟨p, rfl, posM_lt hm hw i p q, fun e => hs ⟨i, hi, .inr (by rw [q, e])⟩⟩
    let L : List Nat := (List.range many).map fun i => (posM w goal i).getD 0
    have hL : ∀ i, i < many → ∃ p, L[i]? = some p ∧ posM w goal i = some p := fun i hi => by
      obtain ⟨p, h1, _⟩ := hv i hi
      refine ⟨p, ?_, h1⟩
      show ((List.range many).map fun i => (posM w goal i).getD 0)[i]? = some p
      rw [List.getElem?_map, List.getElem?_range hi]
      simp [h1]
    have hlen : L.length = many := by simp [L]
    have hnd : ¬ L.Nodup := fun hn => by
      have h1 : (goal :: L).Nodup := by
        refine List.nodup_cons.mpr ⟨fun hm => ?_, hn⟩
        obtain ⟨i, hi, e⟩ := List.mem_map.mp hm
        obtain ⟨p, h1, h2, h3⟩ := hv i (List.mem_range.mp hi)
        rw [h1] at e
        exact h3 e
      have h2 := nodup_lt_len (n := many) h1 fun p hp => by
        rcases List.mem_cons.mp hp with rfl | hp
        · exact hg
        · obtain ⟨i, hi, e⟩ := List.mem_map.mp hp
          obtain ⟨p', h1, h2, h3⟩ := hv i (List.mem_range.mp hi)
          rw [h1] at e
          simp at e
          omega
      simp [hlen] at h2
      omega
    obtain ⟨i, j, hij, hj, e⟩ := not_nodup_ex L hnd
    rw [hlen] at hj
    obtain ⟨p, h1, h2⟩ := hL i (by omega)
    obtain ⟨p', h3, h4⟩ := hL j hj
    rw [h1, h3] at e
    cases e
    refine ⟨i, j - i, by omega, by omega, fun k hk => ?_⟩
    have := posM_add (h4.trans h2.symm) (k - i)
    rw [show j + (k - i) = k + (j - i) by omega, show i + (k - i) = k by omega] at this
    exact this
/-- two webs' answers of one goal -/
theorem agree_all {many goal : Nat} {w v : List (Option Nat)} {S T : List Nat} (hm : 0 < many) (h1 : 1 ≤ goal) (hg : goal < many) (hw : WayOk many goal w) (hv : WayOk many goal v) (hS : 0 ∉ S) (hT : 0 ∉ T)
    (h : ∀ i, 1 ≤ i → i ≤ 2 * many → ansM S goal (posM w goal i) = ansM T goal (posM v goal i)) : ∀ i, ansM S goal (posM w goal i) = ansM T goal (posM v goal i) := by
  obtain ⟨μ, p, p1, p2, p3⟩ := posM_round hm hg hw
  obtain ⟨ν, q, q1, q2, q3⟩ := posM_round hm hg hv
  refine per_two (fun i => ansM S goal (posM w goal i)) (fun i => ansM T goal (posM v goal i)) (max μ ν) p q (2 * many) (fun i hi => ?_) (fun i hi => ?_) p1 q1 ?_ fun i hi => ?_
  · show ansM S goal _ = ansM S goal _
    rw [p3 i (by omega)]
  · show ansM T goal _ = ansM T goal _
    rw [q3 i (by omega)]
  · omega
  · by_cases h0 : i = 0
    · subst h0
      show ansM S goal (some 0) = ansM T goal (some 0)
      unfold ansM
      simp only [hS, hT, if_false]
    · exact h i (by omega) (by omega)
end HC
end
section
namespace HC
open PySem PySem.Spec L2 HD
theorem compL_nat {tg : D → Dl → Option Dl} {c : EM Bool} {e : EM D} {lw : Dl} {rw : Rw} (b : Nat → Bool) : ∀ xs : List Nat, (∀ x ∈ xs, ∃ l1, tg (.int (x : Int)) lw = some l1 ∧ c l1 rw = .ok (b x, rw) ∧ e l1 rw = .ok (.int (x : Int), rw)) → compL tg c e lw (dNs xs) rw = .ok (dNs (xs.filter b), rw)
  | [], _ => rfl
  | x :: xs, hh => by
    obtain ⟨l1, h1, h2, h3⟩ := hh x (by simp)
    have ih := compL_nat b xs fun y hy => hh y (List.mem_cons_of_mem _ hy)
    show compL tg c e lw (.int (x : Int) :: dNs xs) rw = _
    unfold compL
    rw [h1]
    cases q : b x with
    | true =>
      rw [List.filter_cons, if_pos q]
      simp only [h2, h3, q, noX_ok, bind_ok, if_true, ih]
      rfl
    | false =>
      rw [List.filter_cons, if_neg (by rw [q]; simp)]
      simp only [h2, q, noX_ok, bind_ok, Bool.false_eq_true, if_false, ih]
def oth (n i : Nat) : List Nat := (List.range' 0 n).filter fun j => !decide (j = i)
theorem oth_mem {n i j : Nat} (h : j ∈ oth n i) : j < n ∧ j ≠ i := by
  unfold oth at h
  rw [List.mem_filter] at h
  have := List.mem_range'_1.mp h.1
  have h2 := h.2
  simp at h2
  omega
theorem oth_len : ∀ n i : Nat, i < n → (oth n i).length = n - 1 := by
  intro n i hi
  have h : ∀ n, (oth n i).length + (if i < n then 1 else 0) = n := by
    intro n
    induction n with
    | zero => rfl
    | succ n ih =>
      unfold oth at ih ⊢
      rw [List.range'_concat, List.filter_append, List.length_append]
      by_cases e : n = i
      · subst e
        simp at ih ⊢
        omega
      · have : ((List.filter (fun j => !decide (j = i)) [0 + 1 * n])).length = 1 := by simp [e]
        rw [this]
        split at ih <;> rename_i h1 <;> split <;> omega
  have := h n
  rw [if_pos hi] at this
  omega
theorem fAdd_tup (xs ys : List D) (h : xs.length + ys.length ≤ 100000) : fAdd (.tup xs) (.tup ys) = some (.tup (xs ++ ys)) := by
  have : xs.length + ys.length ≤ sizeLine := sl_big h
  simp [fAdd, this]
theorem fAdd_lst (xs ys : List D) (h : xs.length + ys.length ≤ 100000) : fAdd (.lst xs) (.lst ys) = some (.lst (xs ++ ys)) := by
  have : xs.length + ys.length ≤ sizeLine := sl_big h
  simp [fAdd, this]
theorem fSl_tup (xs : List D) (lo hi : Option Int) : fSl (.tup xs) lo hi = some (.tup (cutD xs lo hi)) := rfl
theorem fSl_lst (xs : List D) (lo hi : Option Int) : fSl (.lst xs) lo hi = some (.lst (cutD xs lo hi)) := rfl
theorem splice {α : Type} (f : α → D) (xs : List α) (k : Nat) (o : α) (h : k < xs.length) : cutD (xs.map f) none (some (k : Int)) ++ [f o] ++ cutD (xs.map f) (some ((k : Int) + 1)) none = (xs.set k o).map f := by
  rw [cut_to (by simp; omega), show (k : Int) + 1 = ((k + 1 : Nat) : Int) by omega, cut_from (by simp; omega), List.set_eq_take_append_cons_drop, if_pos h, List.map_append, List.map_cons, List.map_take, List.map_drop, List.append_assoc]
  rfl
theorem cutD_len (xs : List D) (lo hi : Option Int) : (cutD xs lo hi).length ≤ xs.length := by
  unfold cutD
  rw [List.length_take, List.length_drop]
  omega
theorem way_set {many goal p : Nat} {w : List (Option Nat)} {o : Option Nat} (hw : WayOk many goal w) (hp : p ≠ goal) (ho : ∀ v, o = some v → v < many ∧ v ≠ p) : WayOk many goal (w.set p o) := by
  refine ⟨by rw [List.length_set]; exact hw.len, ?_, fun i v h => ?_⟩
  · rw [List.getElem?_set_ne hp]; exact hw.at_
  · by_cases e : p = i
    · subst e
      rw [List.getElem?_set] at h
      simp at h
      exact ho v h.2
    · rw [List.getElem?_set_ne e] at h
      exact hw.go i v h
theorem web_set {W : Web} {k : Nat} {w : List (Option Nat)} (h : WebOk W) (hk : k < W.many - 1) (hw : WayOk W.many (k + 1) w) : WebOk ⟨W.many, W.silent, W.ways.set k w⟩ := by
  refine ⟨h.lo, h.hi, h.sort, h.sil, by show (W.ways.set k w).length = _; rw [List.length_set]; exact h.len, fun g h1 h2 => ?_⟩
  have h2 : g < W.many := h2
  show ∃ w', (W.ways.set k w)[g - 1]? = some w' ∧ _
  by_cases e : k = g - 1
  · subst e
    rw [List.getElem?_set]
    refine ⟨w, ?_, ?_⟩
    · have := h.len
      simp
      omega
    · rwa [show g - 1 + 1 = g by omega] at hw
  · rw [List.getElem?_set_ne e]
    exact h.way g h1 h2
def otB1 : SM := (sSeq (sSet 6 (eBin fAdd (eK (.int 1)) (eCall d__law_taken (aCons (eV 0) (aCons (eBin fSub (eV 2) (eK (.int 1))) aNil))))) (sRet (eTup (aCons (eV 2) (aCons (eArgs fTuple (aCons (eComp (aRng rng2 (aCons (eK (.int 1)) (aCons (eV 2) aNil))) (gN 7) (toB (eBin fNe (eBin (fIn false) (eV 7) (eV 3)) (eBin fEq (eV 7) (eV 6)))) (eV 7) [7]) aNil)) (aCons (eV 4) aNil))))))
theorem otB1_ok {W : Web} (h : WebOk W) (x1 x5 x6 x8 x9 : Sl) (rw : Rw) (hv : RV rw) : ∃ V l' rw', otB1 [.val .row, x1, .val (.int (W.many : Int)), .val (.tup (dNs W.silent)), .val (.tup (W.ways.map dWay)), x5, x6, .no, x8, x9] rw = .ok (.ret (dWeb V), l', rw') ∧ RV rw' ∧ WebOk V := by
  obtain ⟨t, rw1, e1, r1, t0, t1⟩ := taken_ok hv (n := (W.many : Int) - 1) (by have := h.lo; omega)
  obtain ⟨p, hp⟩ : ∃ p : Nat, (1 : Int) + t = (p : Int) := ⟨((1 : Int) + t).toNat, by omega⟩
  have hr : rng2 [.int 1, .int (W.many : Int)] = some (dNs (List.range' 1 (W.many - 1))) := by
    rw [← rangeD_dNs]
    exact rng2_of' (a := 1) rfl rfl (by decide) (by have := h.hi; omega)
  have e2 := compL_nat (tg := gN 7) (c := toB (eBin fNe (eBin (fIn false) (eV 7) (eV 3)) (eBin fEq (eV 7) (eV 6)))) (e := eV 7) (lw := [.val .row, x1, .val (.int (W.many : Int)), .val (.tup (dNs W.silent)), .val (.tup (W.ways.map dWay)), x5, .val (.int (p : Int)), .no, x8, x9]) (rw := rw1) (fun j => !decide (decide (j ∈ W.silent) = decide ((j : Int) = (p : Int)))) (List.range' 1 (W.many - 1)) fun j _ => ⟨[.val .row, x1, .val (.int (W.many : Int)), .val (.tup (dNs W.silent)), .val (.tup (W.ways.map dWay)), x5, .val (.int (p : Int)), .val (.int (j : Int)), x8, x9], rfl, by
    simp -implicitDefEqProofs only [toB_ap, eBin_ap, eV_ap, List.getElem?_cons_succ, List.getElem?_cons_zero, getV_val, bind_ok, fIn_dNsT, Bool.false_eq_true, if_false, ofO_some, fEq_int, fNe_bl, toBK_bl], rfl⟩
  generalize hS : (List.range' 1 (W.many - 1)).filter (fun j => !decide (decide (j ∈ W.silent) = decide ((j : Int) = (p : Int)))) = S at e2
  have hl2 : (dNs (List.range' 1 (W.many - 1))).length ≤ sizeLine := sl_big (by rw [dNs_len]; simp; have := h.hi; omega)
  have hw2 : wipeD [.val .row, x1, .val (.int (W.many : Int)), .val (.tup (dNs W.silent)), .val (.tup (W.ways.map dWay)), x5, .val (.int (p : Int)), .no, x8, x9] [7] = [.val .row, x1, .val (.int (W.many : Int)), .val (.tup (dNs W.silent)), .val (.tup (W.ways.map dWay)), x5, .val (.int (p : Int)), .no, x8, x9] := rfl
  have h3 : 3 ≤ sizeLine := sl_big (by decide)
  refine ⟨⟨W.many, S, W.ways⟩, [.val .row, x1, .val (.int (W.many : Int)), .val (.tup (dNs W.silent)), .val (.tup (W.ways.map dWay)), x5, .val (.int (p : Int)), .no, x8, x9], rw1, ?_, r1, ?_⟩
  · have ed : dWeb ⟨W.many, S, W.ways⟩ = .tup [.int (W.many : Int), .tup (dNs S), .tup (W.ways.map dWay)] := rfl
    rw [ed]
    simp -implicitDefEqProofs only [otB1, sSeq_ap, sSet_ap, eBin_ap, eK_ap, eCall_ap, aCons_ap, aNil_ap, eV_ap, List.getElem?_cons_succ, List.getElem?_cons_zero, getV_val, bind_ok, fSub_int, ofO_some, e1, fAdd_int, hp, List.set_cons_succ, List.set_cons_zero, seqK_next, sRet_ap, eTup_ap, eArgs_ap, eComp_ap, aRng_ap, hr, hl2, if_true, hw2, e2, fTuple_lst, List.length_cons, List.length_nil, Nat.zero_add, Nat.reduceAdd, h3]
  · refine ⟨h.lo, h.hi, ?_, fun q hq => ?_, h.len, h.way⟩
    · show S.Pairwise _
      rw [← hS]
      exact List.Pairwise.sublist List.filter_sublist (List.pairwise_lt_range' (s := 1) (n := W.many - 1))
    · have hq : q ∈ S := hq
      rw [← hS, List.mem_filter] at hq
      have := List.mem_range'_1.mp hq.1
      show 1 ≤ q ∧ q < W.many
      have := h.lo
      omega
def otB3 : SM := (sSeq (sSet 8 (eCall d__law_taken (aCons (eV 0) (aCons (eBin fSub (eV 2) (eK (.int 1))) aNil)))) (sSeq (sSet 6 (eBin fIx (eComp (aRng rng1 (aCons (eV 2) aNil)) (gN 7) (toB (eBin fNe (eV 7) (eBin fAdd (eV 8) (eK (.int 1))))) (eV 7) [7]) (eCall d__law_taken (aCons (eV 0) (aCons (eBin fSub (eV 2) (eK (.int 1))) aNil))))) (sSeq (sSet 9 (eBin fAdd (eLst (aCons (eK .non) aNil)) (eComp (aRng rng1 (aCons (eV 2) aNil)) (gN 7) (toB (eBin fNe (eV 7) (eV 6))) (eV 7) [7]))) (sSeq (sSet 7 (eBin fAdd (eBin fAdd (eSl (eBin fIx (eV 4) (eV 8)) pNone (pSome (eV 6))) (eTup (aCons (eBin fIx (eV 9) (eCall d__law_taken (aCons (eV 0) (aCons (eV 2) aNil)))) aNil))) (eSl (eBin fIx (eV 4) (eV 8)) (pSome (eBin fAdd (eV 6) (eK (.int 1)))) pNone))) (sRet (eTup (aCons (eV 2) (aCons (eV 3) (aCons (eBin fAdd (eBin fAdd (eSl (eV 4) pNone (pSome (eV 8))) (eTup (aCons (eV 7) aNil))) (eSl (eV 4) (pSome (eBin fAdd (eV 8) (eK (.int 1)))) pNone)) aNil)))))))))
theorem otB3_ok {W : Web} (h : WebOk W) (x1 x5 x6 x8 x9 : Sl) (rw : Rw) (hv : RV rw) : ∃ V l' rw', otB3 [.val .row, x1, .val (.int (W.many : Int)), .val (.tup (dNs W.silent)), .val (.tup (W.ways.map dWay)), x5, x6, .no, x8, x9] rw = .ok (.ret (dWeb V), l', rw') ∧ RV rw' ∧ WebOk V := by
  have hlo := h.lo
  have hhi := h.hi
  obtain ⟨t, rw1, e1, r1, t0, t1⟩ := taken_ok hv (n := (W.many : Int) - 1) (by omega)
  obtain ⟨k, rfl⟩ : ∃ k : Nat, t = (k : Int) := ⟨t.toNat, by omega⟩
  obtain ⟨t, rw2, e2, r2, u0, u1⟩ := taken_ok r1 (n := (W.many : Int) - 1) (by omega)
  obtain ⟨j, rfl⟩ : ∃ k : Nat, t = (k : Int) := ⟨t.toNat, by omega⟩
  obtain ⟨t, rw3, e3, r3, s0, s1⟩ := taken_ok r2 (n := (W.many : Int)) (by omega)
  obtain ⟨i, rfl⟩ : ∃ k : Nat, t = (k : Int) := ⟨t.toNat, by omega⟩
  have hr : rng1 [.int (W.many : Int)] = some (dNs (List.range' 0 W.many)) := by
    rw [← rangeD_dNs]
    exact rng1_of' rfl (by omega)
  have hl2 : (dNs (List.range' 0 W.many)).length ≤ sizeLine := sl_big (by rw [dNs_len]; simp; omega)
  -- the post
  have hol := oth_len W.many (k + 1) (by omega)
  obtain ⟨p, hp⟩ : ∃ p, (oth W.many (k + 1))[j]? = some p := ⟨_, List.getElem?_eq_getElem (by omega)⟩
  have hpm := oth_mem (List.mem_of_getElem? hp)
  have ex : L2.atI (dNs (oth W.many (k + 1))) (j : Int) = some (.int (p : Int)) := by rw [atI_nat_eq, dNs_get, hp]; rfl
  have c1 : ∀ rw : Rw, compL (gN 7) (toB (eBin fNe (eV 7) (eBin fAdd (eV 8) (eK (.int 1))))) (eV 7) [.val .row, x1, .val (.int (W.many : Int)), .val (.tup (dNs W.silent)), .val (.tup (W.ways.map dWay)), x5, x6, .no, .val (.int (k : Int)), x9] (dNs (List.range' 0 W.many)) rw = .ok (dNs (oth W.many (k + 1)), rw) := fun rw => compL_nat (fun j => !decide (j = k + 1)) _ fun q _ => ⟨[.val .row, x1, .val (.int (W.many : Int)), .val (.tup (dNs W.silent)), .val (.tup (W.ways.map dWay)), x5, x6, .val (.int (q : Int)), .val (.int (k : Int)), x9], rfl, by
    have e : decide ((q : Int) = (k : Int) + 1) = decide (q = k + 1) := by
      by_cases z : q = k + 1
      · subst z; simp
      · simp [z]; omega
    simp -implicitDefEqProofs only [toB_ap, eBin_ap, eV_ap, eK_ap, List.getElem?_cons_succ, List.getElem?_cons_zero, getV_val, bind_ok, fAdd_int, ofO_some, fNe_int, toBK_bl, e], rfl⟩
  have hw1 : wipeD [.val .row, x1, .val (.int (W.many : Int)), .val (.tup (dNs W.silent)), .val (.tup (W.ways.map dWay)), x5, x6, .no, .val (.int (k : Int)), x9] [7] = [.val .row, x1, .val (.int (W.many : Int)), .val (.tup (dNs W.silent)), .val (.tup (W.ways.map dWay)), x5, x6, .no, .val (.int (k : Int)), x9] := rfl
  -- where it goes
  have hol2 := oth_len W.many p hpm.1
  have c2 : ∀ rw : Rw, compL (gN 7) (toB (eBin fNe (eV 7) (eV 6))) (eV 7) [.val .row, x1, .val (.int (W.many : Int)), .val (.tup (dNs W.silent)), .val (.tup (W.ways.map dWay)), x5, .val (.int (p : Int)), .no, .val (.int (k : Int)), x9] (dNs (List.range' 0 W.many)) rw = .ok (dNs (oth W.many p), rw) := fun rw => compL_nat (fun j => !decide (j = p)) _ fun q _ => ⟨[.val .row, x1, .val (.int (W.many : Int)), .val (.tup (dNs W.silent)), .val (.tup (W.ways.map dWay)), x5, .val (.int (p : Int)), .val (.int (q : Int)), .val (.int (k : Int)), x9], rfl, by
    have e : decide ((q : Int) = (p : Int)) = decide (q = p) := by
      by_cases z : q = p
      · subst z; simp
      · simp [z]; omega
    simp -implicitDefEqProofs only [toB_ap, eBin_ap, eV_ap, eK_ap, List.getElem?_cons_succ, List.getElem?_cons_zero, getV_val, bind_ok, ofO_some, fNe_int, toBK_bl, e], rfl⟩
  have hw2 : wipeD [.val .row, x1, .val (.int (W.many : Int)), .val (.tup (dNs W.silent)), .val (.tup (W.ways.map dWay)), x5, .val (.int (p : Int)), .no, .val (.int (k : Int)), x9] [7] = [.val .row, x1, .val (.int (W.many : Int)), .val (.tup (dNs W.silent)), .val (.tup (W.ways.map dWay)), x5, .val (.int (p : Int)), .no, .val (.int (k : Int)), x9] := rfl
  have hcat : fAdd (.lst [.non]) (.lst (dNs (oth W.many p))) = some (.lst ([.non] ++ dNs (oth W.many p))) := fAdd_lst _ _ (by rw [dNs_len, hol2]; simp; omega)
  obtain ⟨o, ho, hov⟩ : ∃ o : Option Nat, L2.atI ([.non] ++ dNs (oth W.many p)) (i : Int) = some (dO o) ∧ ∀ v, o = some v → v < W.many ∧ v ≠ p := by
    rw [atI_nat_eq]
    cases i with
    | zero => exact ⟨none, rfl, fun v e => by cases e⟩
    | succ i =>
      obtain ⟨q, hq⟩ : ∃ q, (oth W.many p)[i]? = some q := ⟨_, List.getElem?_eq_getElem (by omega)⟩
      refine ⟨some q, ?_, fun v e => by cases e; exact oth_mem (List.mem_of_getElem? hq)⟩
      show (dNs (oth W.many p))[i]? = _
      rw [dNs_get, hq]; rfl
  -- the way
  obtain ⟨w, hw, hwo⟩ := h.way (k + 1) (by omega) (by omega)
  rw [Nat.add_sub_cancel] at hw
  have hwx : L2.atI (W.ways.map dWay) (k : Int) = some (.tup (w.map dO)) := by rw [atI_nat_eq, List.getElem?_map, hw]; rfl
  have hlenw := hwo.len
  have hlenW := h.len
  have hlc1 : (cutD (w.map dO) none (some (p : Int))).length ≤ 6 := Nat.le_trans (cutD_len _ _ _) (by simp; omega)
  have hlc2 : (cutD (w.map dO) (some ((p : Int) + 1)) none).length ≤ 6 := Nat.le_trans (cutD_len _ _ _) (by simp; omega)
  have a1 : fAdd (.tup (cutD (w.map dO) none (some (p : Int)))) (.tup [dO o]) = some (.tup (cutD (w.map dO) none (some (p : Int)) ++ [dO o])) := fAdd_tup _ _ (by simp; omega)
  have a2 : fAdd (.tup (cutD (w.map dO) none (some (p : Int)) ++ [dO o])) (.tup (cutD (w.map dO) (some ((p : Int) + 1)) none)) = some (dWay (w.set p o)) := by
    rw [fAdd_tup _ _ (by simp; omega), splice dO w p o (by omega)]
    rfl
  have hld1 : (cutD (W.ways.map dWay) none (some (k : Int))).length ≤ 6 := Nat.le_trans (cutD_len _ _ _) (by simp; omega)
  have hld2 : (cutD (W.ways.map dWay) (some ((k : Int) + 1)) none).length ≤ 6 := Nat.le_trans (cutD_len _ _ _) (by simp; omega)
  have b1 : fAdd (.tup (cutD (W.ways.map dWay) none (some (k : Int)))) (.tup [dWay (w.set p o)]) = some (.tup (cutD (W.ways.map dWay) none (some (k : Int)) ++ [dWay (w.set p o)])) := fAdd_tup _ _ (by simp; omega)
  have b2 : fAdd (.tup (cutD (W.ways.map dWay) none (some (k : Int)) ++ [dWay (w.set p o)])) (.tup (cutD (W.ways.map dWay) (some ((k : Int) + 1)) none)) = some (.tup ((W.ways.set k (w.set p o)).map dWay)) := by
    rw [fAdd_tup _ _ (by simp; omega), splice dWay W.ways k (w.set p o) (by omega)]
  have h1 : 1 ≤ sizeLine := sl_big (by decide)
  have h3 : 3 ≤ sizeLine := sl_big (by decide)
  refine ⟨⟨W.many, W.silent, W.ways.set k (w.set p o)⟩, [.val .row, x1, .val (.int (W.many : Int)), .val (.tup (dNs W.silent)), .val (.tup (W.ways.map dWay)), x5, .val (.int (p : Int)), .val (dWay (w.set p o)), .val (.int (k : Int)), .val (.lst ([.non] ++ dNs (oth W.many p)))], rw3, ?_, r3, web_set h (by omega) (way_set hwo (by omega) hov)⟩
  have ed : dWeb ⟨W.many, W.silent, W.ways.set k (w.set p o)⟩ = .tup [.int (W.many : Int), .tup (dNs W.silent), .tup ((W.ways.set k (w.set p o)).map dWay)] := rfl
  rw [ed]
  simp -implicitDefEqProofs only [otB3, sSeq_ap, sSet_ap, eCall_ap, aCons_ap, aNil_ap, eV_ap, eK_ap, eBin_ap, List.getElem?_cons_succ, List.getElem?_cons_zero, getV_val, bind_ok, fSub_int, ofO_some, e1, List.set_cons_succ, List.set_cons_zero, seqK_next, eComp_ap, aRng_ap, hr, hl2, if_true, hw1, c1, e2, fIx_lst, ex, eLst_ap, List.length_cons, List.length_nil, Nat.zero_add, h1, hw2, c2, hcat, eSl_ap, pNone_ap, pSome_ap, fIx_tup, hwx, fSl_tup, e3, ho, eTup_ap, a1, fAdd_int, a2, sRet_ap, b1, b2, Nat.reduceAdd, h3]
theorem other_ok {W : Web} {rw : Rw} (h : WebOk W) (hv : RV rw) : ∃ V rw', d__law_other [.row, dWeb W] rw = .ok (dWeb V, rw') ∧ RV rw' ∧ WebOk V := by
  obtain ⟨t, rw1, e1, r1, t0, t1⟩ := taken_ok hv (n := 5) (by decide)
  have eb : b__law_other = sSeq (sAsg (eV 1) (gT 3 (gsCons (gN 2) (gsCons (gN 3) (gsCons (gN 4) gsNil))))) (sSeq (sSet 5 (eCall d__law_taken (aCons (eV 0) (aCons (eK (.int 5)) aNil)))) (sSeq (sIf (toB (eBin fEq (eV 5) (eK (.int 0)))) (sRet (eCall d__law_web (aCons (eV 0) (aCons (eK (.int 2)) (aCons (eK (.int 6)) aNil))))) sNext) (sSeq (sIf (toB (eBin fEq (eV 5) (eK (.int 1)))) otB1 sNext) (sSeq (sIf (toB (eBin fEq (eV 5) (eK (.int 2)))) (sRet (eV 1)) sNext) otB3)))) := rfl
  have ha : sAsg (eV 1) (gT 3 (gsCons (gN 2) (gsCons (gN 3) (gsCons (gN 4) gsNil)))) [.val .row, .val (dWeb W), .no, .no, .no, .no, .no, .no, .no, .no] rw = .ok (.next, [.val .row, .val (dWeb W), .val (.int (W.many : Int)), .val (.tup (dNs W.silent)), .val (.tup (W.ways.map dWay)), .no, .no, .no, .no, .no], rw) := rfl
  unfold d__law_other
  rw [dDef2, eb]
  simp -implicitDefEqProofs only [List.replicate]
  rw [sSeq_ap, ha]
  simp -implicitDefEqProofs only [bind_ok, seqK_next, sSeq_ap, sSet_ap, eCall_ap, aCons_ap, aNil_ap, eV_ap, eK_ap, List.getElem?_cons_succ, List.getElem?_cons_zero, getV_val, e1, List.set_cons_succ, List.set_cons_zero, sIf_ap, toB_ap, eBin_ap, fEq_int, ofO_some, toBK_bl]
  by_cases h0 : t = 0
  · obtain ⟨V, rw2, e2, r2, hV, _, _⟩ := web_ok (a := 2) (b := 6) (by decide) (by decide) (by decide) r1
    have e2' : d__law_web [.row, .int 2, .int 6] rw1 = .ok (dWeb V, rw2) := e2
    refine ⟨V, rw2, ?_, r2, hV⟩
    simp -implicitDefEqProofs only [h0, decide_true, if_true, sRet_ap, eCall_ap, aCons_ap, aNil_ap, eV_ap, eK_ap, List.getElem?_cons_succ, List.getElem?_cons_zero, getV_val, bind_ok, e2', seqK_ret, dFin_ret]
  · by_cases h1 : t = 1
    · obtain ⟨V, l', rw2, e2, r2, hV⟩ := otB1_ok h (.val (dWeb W)) (.val (.int t)) .no .no .no rw1 r1
      refine ⟨V, rw2, ?_, r2, hV⟩
      simp -implicitDefEqProofs only [h0, decide_false, Bool.false_eq_true, if_false, sNext_ap, bind_ok, seqK_next, sSeq_ap, sIf_ap, toB_ap, eBin_ap, eV_ap, eK_ap, List.getElem?_cons_succ, List.getElem?_cons_zero, getV_val, fEq_int, ofO_some, toBK_bl, decide_eq_true h1, if_true, e2, seqK_ret, dFin_ret]
    · by_cases h2 : t = 2
      · refine ⟨W, rw1, ?_, r1, h⟩
        simp -implicitDefEqProofs only [h0, h1, decide_false, Bool.false_eq_true, if_false, sNext_ap, bind_ok, seqK_next, sSeq_ap, sIf_ap, toB_ap, eBin_ap, eV_ap, eK_ap, List.getElem?_cons_succ, List.getElem?_cons_zero, getV_val, fEq_int, ofO_some, toBK_bl, decide_eq_true h2, if_true, sRet_ap, seqK_ret, dFin_ret]
      · obtain ⟨V, l', rw2, e2, r2, hV⟩ := otB3_ok h (.val (dWeb W)) (.val (.int t)) .no .no .no rw1 r1
        refine ⟨V, rw2, ?_, r2, hV⟩
        simp -implicitDefEqProofs only [h0, h1, h2, decide_false, Bool.false_eq_true, if_false, sNext_ap, bind_ok, seqK_next, sSeq_ap, sIf_ap, toB_ap, eBin_ap, eV_ap, eK_ap, List.getElem?_cons_succ, List.getElem?_cons_zero, getV_val, fEq_int, ofO_some, toBK_bl, e2, dFin_ret]
end HC
end
section
/-! Parting, plainly. -/
namespace HC
open PySem PySem.Spec L2 HD
/-- a loop over numbers that looks for something -/
theorem loop_find {tg : D → Dl → Option Dl} {body : SM} (inv : Dl → Prop) (f : Nat → Option D) (rw : Rw) : ∀ (xs : List Nat) (l : Dl), inv l → (∀ x ∈ xs, ∀ l, inv l → ∃ l1, tg (.int (x : Int)) l = some l1 ∧ ((f x = none ∧ ∃ l2, body l1 rw = .ok (.next, l2, rw) ∧ inv l2) ∨ (∃ d l2, f x = some d ∧ body l1 rw = .ok (.ret d, l2, rw)))) →
    (xs.findSome? f = none ∧ ∃ l', sLoop tg body (dNs xs) l rw = .ok (.next, l', rw) ∧ inv l') ∨ (∃ d l', xs.findSome? f = some d ∧ sLoop tg body (dNs xs) l rw = .ok (.ret d, l', rw))
  | [], l, hl, _ => .inl ⟨rfl, l, rfl, hl⟩
  | x :: xs, l, hl, h => by
    obtain ⟨l1, h1, h2⟩ := h x (by simp) l hl
    have es : sLoop tg body (dNs (x :: xs)) l rw = sLoop tg body (.int (x : Int) :: dNs xs) l rw := rfl
    rw [es]
    unfold sLoop
    rw [h1]
    rcases h2 with ⟨h2, l2, h3, h4⟩ | ⟨d, l2, h2, h3⟩
    · rw [List.findSome?_cons, h2]
      simp only [h3, bind_ok]
      exact loop_find inv f rw xs l2 h4 fun y hy => h y (List.mem_cons_of_mem _ hy)
    · rw [List.findSome?_cons, h2]
      simp only [h3, bind_ok]
      exact .inr ⟨d, l2, rfl, rfl⟩
def isAns (d : D) : Prop := d = nothingD ∨ ∃ (s : Str) (i : Int), d = .tup [.str s, .int i]
theorem isAns_of (S : List Nat) (g : Nat) (o : Option Nat) : isAns (ansM S g o) := by
  cases o with
  | none => exact .inl rfl
  | some p =>
    unfold ansM
    simp only []
    split
    · exact .inl rfl
    · exact .inr ⟨_, _, rfl⟩
theorem eqD_isAns {d e : D} (h : isAns d) (h' : isAns e) : eqD d e = true ↔ d = e := by
  rcases h with rfl | ⟨s, i, rfl⟩ <;> rcases h' with rfl | ⟨t, j, rfl⟩
  · simp [nothingD]
  · simp [nothingD]
  · simp [nothingD]
  · simp
def wayOf (W : Web) (g : Nat) : List (Option Nat) := (W.ways[g - 1]?).getD []
theorem wayOf_at {W : Web} (h : WebOk W) {g : Nat} (h1 : 1 ≤ g) (h2 : g < W.many) : WayAt W g (wayOf W g) := by
  obtain ⟨w, hw⟩ := h.wayAt h1 h2
  have : wayOf W g = w := by unfold wayOf; rw [hw.at_]; rfl
  rw [this]
  exact hw
def told (W : Web) (g h : Nat) : D := ansM W.silent g (posM (wayOf W g) g h)
def diffAt (A B : Web) (g h : Nat) : Bool := !eqD (told A g h) (told B g h)
theorem diffAt_comm (A B : Web) (g h : Nat) : diffAt A B g h = diffAt B A g h := by
  unfold diffAt told
  congr 1
  rw [Bool.eq_iff_iff, eqD_isAns (isAns_of _ _ _) (isAns_of _ _ _), eqD_isAns (isAns_of _ _ _) (isAns_of _ _ _)]
  exact eq_comm
theorem fNe_told (A B : Web) (g h : Nat) : fNe (told A g h) (told B g h) = some (.bl (diffAt A B g h)) := by
  unfold fNe
  rw [if_pos ⟨fit_ansM 7 _ _ _, fit_ansM 7 _ _ _⟩]
  rfl
def hopF (A B : Web) (g h : Nat) : Option D := if diffAt A B g h = true then some (.tup [.int (g : Int), .int (h : Int)]) else none
def goalF (A B : Web) (n g : Nat) : Option D := (List.range' 1 n).findSome? (hopF A B g)
def partF (A B : Web) (n : Nat) : Option D := (List.range' 1 (A.many - 1)).findSome? (goalF A B n)
def partR (A B : Web) (n : Nat) : D := (partF A B n).getD .non
theorem hopF_comm (A B : Web) (g : Nat) : hopF A B g = hopF B A g := by
  funext h
  unfold hopF
  rw [diffAt_comm]
theorem partR_comm {A B : Web} (e : A.many = B.many) (n : Nat) : partR A B n = partR B A n := by
  unfold partR partF
  rw [e]
  have : goalF A B n = goalF B A n := by
    funext g
    unfold goalF
    rw [hopF_comm]
  rw [this]
theorem findSome_congr {α β : Type} {f g : α → Option β} : ∀ {xs : List α}, (∀ x ∈ xs, f x = g x) → xs.findSome? f = xs.findSome? g
  | [], _ => rfl
  | x :: xs, h => by
    rw [List.findSome?_cons, List.findSome?_cons, h x (by simp), findSome_congr fun y hy => h y (List.mem_cons_of_mem _ hy)]
theorem zero_silent {W : Web} (h : WebOk W) : 0 ∉ W.silent := fun z => by have := h.sil 0 z; omega
theorem goal_60 {A B : Web} (hA : WebOk A) (hB : WebOk B) (e : A.many = B.many) {g : Nat} (h1 : 1 ≤ g) (h2 : g < A.many) : goalF A B 60 g = goalF A B (2 * A.many) g := by
  unfold goalF
  have hm := hA.hi
  have es : List.range' 1 60 = List.range' 1 (2 * A.many) ++ List.range' (1 + 2 * A.many) (60 - 2 * A.many) := by
    have := List.range'_append_1 (s := 1) (m := 2 * A.many) (n := 60 - 2 * A.many)
    rw [this]
    congr 1
    omega
  rw [es, List.findSome?_append]
  cases q : (List.range' 1 (2 * A.many)).findSome? (hopF A B g) with
  | some d => rfl
  | none =>
    rw [Option.none_or]
    rw [List.findSome?_eq_none_iff] at q ⊢
    have ha := wayOf_at hA h1 h2
    have hb := wayOf_at hB h1 (by omega)
    have key := agree_all (many := A.many) (S := A.silent) (T := B.silent) (by omega) h1 h2 ha.ok (e ▸ hb.ok) (zero_silent hA) (zero_silent hB) fun i i1 i2 => by
      have := q i (List.mem_range'_1.mpr ⟨i1, by omega⟩)
      unfold hopF at this
      split at this
      · cases this
      · rename_i hd
        unfold diffAt at hd
        simp at hd
        exact (eqD_isAns (isAns_of _ _ _) (isAns_of _ _ _)).mp hd
    intro i _
    unfold hopF
    have hd : diffAt A B g i = false := by
      unfold diffAt told
      rw [(eqD_isAns (isAns_of _ _ _) (isAns_of _ _ _)).mpr (key i)]
      rfl
    rw [hd]
    rfl
theorem part_60 {A B : Web} (hA : WebOk A) (hB : WebOk B) (e : A.many = B.many) : partR A B 60 = partR A B (2 * A.many) := by
  unfold partR partF
  congr 1
  refine findSome_congr fun g hg => ?_
  have := List.mem_range'_1.mp hg
  exact goal_60 hA hB e (by omega) (by omega)
/-! ### the law's -/
def lpHop : SM := (sIf (toB (eBin fNe (eCall d__law_asked (aCons (eV 0) (aCons (eV 2) (aCons (eV 3) aNil)))) (eCall d__law_asked (aCons (eV 1) (aCons (eV 2) (aCons (eV 3) aNil)))))) (sRet (eTup (aCons (eV 2) (aCons (eV 3) aNil)))) sNext)
theorem law_parting_eq {A B : Web} {rw : Rw} (hA : WebOk A) (hB : WebOk B) (e : A.many = B.many) : d__law_parting [dWeb A, dWeb B] rw = .ok (partR A B 60, rw) := by
  have h2l : 2 ≤ sizeLine := sl_big (by decide)
  have hr60 : rng2 [.int 1, .int 61] = some (dNs (List.range' 1 60)) := by
    rw [← rangeD_dNs]
    exact rng2_of' (a := 1) (b := 61) rfl rfl (by decide) (by decide)
  have hr : rng2 [.int 1, .int (A.many : Int)] = some (dNs (List.range' 1 (A.many - 1))) := by
    rw [← rangeD_dNs]
    exact rng2_of' (a := 1) rfl rfl (by decide) (by have := hA.hi; omega)
  have inner : ∀ g x3, 1 ≤ g → g < A.many → _ := fun g x3 g1 g2 => loop_find (tg := gN 3) (body := lpHop) (fun l => ∃ x3, l = [.val (dWeb A), .val (dWeb B), .val (.int (g : Int)), x3]) (hopF A B g) rw (List.range' 1 60) [.val (dWeb A), .val (dWeb B), .val (.int (g : Int)), x3] ⟨_, rfl⟩ fun h hh l ⟨y3, hl⟩ => by
    subst hl
    have hh := List.mem_range'_1.mp hh
    have ea := law_asked_ok (rw := rw) (n := h) hA (wayOf_at hA g1 g2) (by omega)
    have eb := law_asked_ok (rw := rw) (n := h) hB (wayOf_at hB g1 (by omega)) (by omega)
    have en := fNe_told A B g h
    unfold told at en
    refine ⟨[.val (dWeb A), .val (dWeb B), .val (.int (g : Int)), .val (.int (h : Int))], rfl, ?_⟩
    unfold hopF
    cases q : diffAt A B g h with
    | false =>
      rw [q] at en
      refine .inl ⟨rfl, [.val (dWeb A), .val (dWeb B), .val (.int (g : Int)), .val (.int (h : Int))], ?_, _, rfl⟩
      simp -implicitDefEqProofs only [lpHop, sIf_ap, toB_ap, eBin_ap, eCall_ap, aCons_ap, aNil_ap, eV_ap, List.getElem?_cons_succ, List.getElem?_cons_zero, getV_val, bind_ok, ea, eb, en, ofO_some, toBK_bl, Bool.false_eq_true, if_false, sNext_ap]
    | true =>
      rw [q] at en
      refine .inr ⟨_, [.val (dWeb A), .val (dWeb B), .val (.int (g : Int)), .val (.int (h : Int))], rfl, ?_⟩
      simp -implicitDefEqProofs only [lpHop, sIf_ap, toB_ap, eBin_ap, eCall_ap, aCons_ap, aNil_ap, eV_ap, List.getElem?_cons_succ, List.getElem?_cons_zero, getV_val, bind_ok, ea, eb, en, ofO_some, toBK_bl, if_true, sRet_ap, eTup_ap, List.length_cons, List.length_nil, Nat.zero_add, Nat.reduceAdd, h2l]
  have outer := loop_find (tg := gN 2) (body := sFor (aRng rng2 (aCons (eK (.int 1)) (aCons (eK (.int 61)) aNil))) (gN 3) lpHop) (fun l => ∃ x2 x3, l = [.val (dWeb A), .val (dWeb B), x2, x3]) (goalF A B 60) rw (List.range' 1 (A.many - 1)) [.val (dWeb A), .val (dWeb B), .no, .no] ⟨_, _, rfl⟩ fun g hg l ⟨y2, y3, hl⟩ => by
    subst hl
    have hg := List.mem_range'_1.mp hg
    refine ⟨[.val (dWeb A), .val (dWeb B), .val (.int (g : Int)), y3], rfl, ?_⟩
    have ef : sFor (aRng rng2 (aCons (eK (.int 1)) (aCons (eK (.int 61)) aNil))) (gN 3) lpHop [.val (dWeb A), .val (dWeb B), .val (.int (g : Int)), y3] rw = sLoop (gN 3) lpHop (dNs (List.range' 1 60)) [.val (dWeb A), .val (dWeb B), .val (.int (g : Int)), y3] rw := by
      simp -implicitDefEqProofs only [sFor_ap, aRng_ap, aCons_ap, aNil_ap, eK_ap, bind_ok, hr60, ofO_some]
    rw [ef]
    rcases inner g y3 (by omega) (by omega) with ⟨h1, l', h2, x3, rfl⟩ | ⟨d, l', h1, h2⟩
    · exact .inl ⟨h1, _, h2, _, _, rfl⟩
    · exact .inr ⟨d, l', h1, h2⟩
  have eb : b__law_parting = sSeq (sIf (toB (eBin fNe (eBin fIx (eV 0) (eK (.int 0))) (eBin fIx (eV 1) (eK (.int 0))))) (sRet (eTup (aCons (eArgs fMin2 (aCons (eBin fIx (eV 0) (eK (.int 0))) (aCons (eBin fIx (eV 1) (eK (.int 0))) aNil))) (aCons (eK (.int 1)) aNil)))) sNext) (sSeq (sFor (aRng rng2 (aCons (eK (.int 1)) (aCons (eBin fIx (eV 0) (eK (.int 0))) aNil))) (gN 2) (sFor (aRng rng2 (aCons (eK (.int 1)) (aCons (eK (.int 61)) aNil))) (gN 3) lpHop)) (sRet (eK .non))) := rfl
  have i0 := ix0 A
  have j0 := ix0 B
  have en : fNe (.int (A.many : Int)) (.int (B.many : Int)) = some (.bl false) := by rw [e]; simp
  unfold d__law_parting
  rw [dDef2, eb]
  unfold partR partF
  rcases outer with ⟨h1, l', h2, _⟩ | ⟨d, l', h1, h2⟩
  · rw [h1]
    simp -implicitDefEqProofs only [List.replicate, sSeq_ap, sIf_ap, toB_ap, eBin_ap, eV_ap, eK_ap, List.getElem?_cons_succ, List.getElem?_cons_zero, getV_val, bind_ok, i0, j0, ofO_some, en, toBK_bl, Bool.false_eq_true, if_false, sNext_ap, seqK_next, sFor_ap, aRng_ap, aCons_ap, aNil_ap, hr]
    rw [h2]
    rfl
  · rw [h1]
    simp -implicitDefEqProofs only [List.replicate, sSeq_ap, sIf_ap, toB_ap, eBin_ap, eV_ap, eK_ap, List.getElem?_cons_succ, List.getElem?_cons_zero, getV_val, bind_ok, i0, j0, ofO_some, en, toBK_bl, Bool.false_eq_true, if_false, sNext_ap, seqK_next, sFor_ap, aRng_ap, aCons_ap, aNil_ap, hr]
    rw [h2]
    rfl
theorem law_parting_ne {A B : Web} {rw : Rw} (e : A.many ≠ B.many) : d__law_parting [dWeb A, dWeb B] rw = .ok (.tup [.int ((if (B.many : Int) < (A.many : Int) then (B.many : Int) else (A.many : Int))), .int 1], rw) := by
  have h2l : 2 ≤ sizeLine := sl_big (by decide)
  have i0 := ix0 A
  have j0 := ix0 B
  have en : fNe (.int (A.many : Int)) (.int (B.many : Int)) = some (.bl true) := by simp; omega
  have em : fMin2 [.int (A.many : Int), .int (B.many : Int)] = some (.int ((if (B.many : Int) < (A.many : Int) then (B.many : Int) else (A.many : Int)))) := rfl
  unfold d__law_parting
  rw [dDef2]
  simp -implicitDefEqProofs only [b__law_parting, List.replicate, sSeq_ap, sIf_ap, toB_ap, eBin_ap, eV_ap, eK_ap, List.getElem?_cons_succ, List.getElem?_cons_zero, getV_val, bind_ok, i0, j0, ofO_some, en, toBK_bl, if_true, sRet_ap, eTup_ap, aCons_ap, aNil_ap, eArgs_ap, em, List.length_cons, List.length_nil, Nat.zero_add, Nat.reduceAdd, h2l, seqK_ret, dFin_ret]
/-! ### the program's -/
def poHop : SM := (sIf (toB (eBin fNe (eBin fIx (eV 4) (eV 6)) (eBin fIx (eV 5) (eV 6)))) (sRet (eTup (aCons (eV 3) (aCons (eBin fAdd (eV 6) (eK (.int 1))) aNil)))) sNext)
def poGoal : SM := (sSeq (sSet 4 (eCall d_answers_of (aCons (eBin fIx (eV 0) (eK (.int 1))) (aCons (eBin fIx (eBin fIx (eV 0) (eK (.int 2))) (eBin fSub (eV 3) (eK (.int 1)))) (aCons (eV 3) (aCons (eV 2) aNil)))))) (sSeq (sSet 5 (eCall d_answers_of (aCons (eBin fIx (eV 1) (eK (.int 1))) (aCons (eBin fIx (eBin fIx (eV 1) (eK (.int 2))) (eBin fSub (eV 3) (eK (.int 1)))) (aCons (eV 3) (aCons (eV 2) aNil)))))) (sFor (aRng rng1 (aCons (eV 2) aNil)) (gN 6) poHop)))
theorem hopF_shift (A B : Web) (g n : Nat) : (List.range' 0 n).findSome? (fun p => hopF A B g (p + 1)) = goalF A B n g := by
  unfold goalF
  have : List.range' 1 n = (List.range' 0 n).map (· + 1) := by
    apply List.ext_getElem?
    intro i
    rw [List.getElem?_map]
    by_cases hi : i < n
    · rw [List.getElem?_range' hi, List.getElem?_range' hi]
      simp [Nat.add_comm]
    · rw [List.getElem?_eq_none (by simp; omega), List.getElem?_eq_none (by simp; omega)]; rfl
  rw [this, List.findSome?_map]
  rfl
theorem parting_of_ok {A B : Web} {rw : Rw} (hA : WebOk A) (hB : WebOk B) (e : A.many = B.many) : d_parting_of [dWeb A, dWeb B] rw = .ok (partR A B (2 * A.many), rw) := by
  have h2l : 2 ≤ sizeLine := sl_big (by decide)
  have hhi := hA.hi
  have hlo := hA.lo
  have hr2 : rng1 [.int ((2 * A.many : Nat) : Int)] = some (dNs (List.range' 0 (2 * A.many))) := by
    rw [← rangeD_dNs]
    exact rng1_of' rfl (by omega)
  have hr : rng2 [.int 1, .int (A.many : Int)] = some (dNs (List.range' 1 (A.many - 1))) := by
    rw [← rangeD_dNs]
    exact rng2_of' (a := 1) rfl rfl (by decide) (by omega)
  have inner : ∀ g x6, 1 ≤ g → g < A.many → _ := fun g x6 g1 g2 => loop_find (tg := gN 6) (body := poHop) (fun l => ∃ x6, l = [.val (dWeb A), .val (dWeb B), .val (.int ((2 * A.many : Nat) : Int)), .val (.int (g : Int)), .val (.lst (ansL A.silent (wayOf A g) g (2 * A.many))), .val (.lst (ansL B.silent (wayOf B g) g (2 * A.many))), x6]) (fun p => hopF A B g (p + 1)) rw (List.range' 0 (2 * A.many)) [.val (dWeb A), .val (dWeb B), .val (.int ((2 * A.many : Nat) : Int)), .val (.int (g : Int)), .val (.lst (ansL A.silent (wayOf A g) g (2 * A.many))), .val (.lst (ansL B.silent (wayOf B g) g (2 * A.many))), x6] ⟨_, rfl⟩ fun h hh l ⟨y6, hl⟩ => by
    subst hl
    have hh := List.mem_range'_1.mp hh
    have ea : L2.atI (ansL A.silent (wayOf A g) g (2 * A.many)) (h : Int) = some (told A g (h + 1)) := by rw [atI_nat_eq, ansL_get (by omega)]; rfl
    have eb : L2.atI (ansL B.silent (wayOf B g) g (2 * A.many)) (h : Int) = some (told B g (h + 1)) := by rw [atI_nat_eq, ansL_get (by omega)]; rfl
    have en := fNe_told A B g (h + 1)
    have ei : fAdd (.int (h : Int)) (.int 1) = some (.int ((h + 1 : Nat) : Int)) := rfl
    refine ⟨[.val (dWeb A), .val (dWeb B), .val (.int ((2 * A.many : Nat) : Int)), .val (.int (g : Int)), .val (.lst (ansL A.silent (wayOf A g) g (2 * A.many))), .val (.lst (ansL B.silent (wayOf B g) g (2 * A.many))), .val (.int (h : Int))], rfl, ?_⟩
    unfold hopF
    generalize ansL A.silent (wayOf A g) g (2 * A.many) = LA at *
    generalize ansL B.silent (wayOf B g) g (2 * A.many) = LB at *
    cases q : diffAt A B g (h + 1) with
    | false =>
      rw [q] at en
      refine .inl ⟨rfl, [.val (dWeb A), .val (dWeb B), .val (.int ((2 * A.many : Nat) : Int)), .val (.int (g : Int)), .val (.lst LA), .val (.lst LB), .val (.int (h : Int))], ?_, _, rfl⟩
      simp -implicitDefEqProofs only [poHop, sIf_ap, toB_ap, eBin_ap, eV_ap, List.getElem?_cons_succ, List.getElem?_cons_zero, getV_val, bind_ok, fIx_lst, ea, eb, en, ofO_some, toBK_bl, Bool.false_eq_true, if_false, sNext_ap]
    | true =>
      rw [q] at en
      refine .inr ⟨_, [.val (dWeb A), .val (dWeb B), .val (.int ((2 * A.many : Nat) : Int)), .val (.int (g : Int)), .val (.lst LA), .val (.lst LB), .val (.int (h : Int))], rfl, ?_⟩
      simp -implicitDefEqProofs only [poHop, sIf_ap, toB_ap, eBin_ap, eV_ap, eK_ap, List.getElem?_cons_succ, List.getElem?_cons_zero, getV_val, bind_ok, fIx_lst, ea, eb, en, ofO_some, toBK_bl, if_true, sRet_ap, eTup_ap, aCons_ap, aNil_ap, ei, List.length_cons, List.length_nil, Nat.zero_add, Nat.reduceAdd, h2l]
  have outer := loop_find (tg := gN 3) (body := poGoal) (fun l => ∃ x3 x4 x5 x6, l = [.val (dWeb A), .val (dWeb B), .val (.int ((2 * A.many : Nat) : Int)), x3, x4, x5, x6]) (goalF A B (2 * A.many)) rw (List.range' 1 (A.many - 1)) [.val (dWeb A), .val (dWeb B), .val (.int ((2 * A.many : Nat) : Int)), .no, .no, .no, .no] ⟨_, _, _, _, rfl⟩ fun g hg l ⟨y3, y4, y5, y6, hl⟩ => by
    subst hl
    have hg := List.mem_range'_1.mp hg
    have wa := wayOf_at hA (g := g) (by omega) (by omega)
    have wb := wayOf_at hB (g := g) (by omega) (by omega)
    have ea := answers_of_ok (rw := rw) (by omega) wa.ok hA.silLen (2 * A.many) (by omega)
    have eb := answers_of_ok (rw := rw) (by omega) wb.ok hB.silLen (2 * A.many) (by omega)
    refine ⟨[.val (dWeb A), .val (dWeb B), .val (.int ((2 * A.many : Nat) : Int)), .val (.int (g : Int)), y4, y5, y6], rfl, ?_⟩
    have i1 := ix1 A
    have i2 := ix2 A
    have ig := wa.ix
    have j1 := ix1 B
    have j2 := ix2 B
    have jg := wb.ix
    have ef : poGoal [.val (dWeb A), .val (dWeb B), .val (.int ((2 * A.many : Nat) : Int)), .val (.int (g : Int)), y4, y5, y6] rw = sLoop (gN 6) poHop (dNs (List.range' 0 (2 * A.many))) [.val (dWeb A), .val (dWeb B), .val (.int ((2 * A.many : Nat) : Int)), .val (.int (g : Int)), .val (.lst (ansL A.silent (wayOf A g) g (2 * A.many))), .val (.lst (ansL B.silent (wayOf B g) g (2 * A.many))), y6] rw := by
      generalize dWeb A = DA at *
      generalize dWeb B = DB at *
      simp -implicitDefEqProofs only [poGoal, sSeq_ap, sSet_ap, eCall_ap, aCons_ap, aNil_ap, eV_ap, eK_ap, eBin_ap, List.getElem?_cons_succ, List.getElem?_cons_zero, getV_val, bind_ok, i1, i2, j1, j2, ofO_some, fSub_int, fIx_tup, ig, jg, ea, eb, List.set_cons_succ, List.set_cons_zero, seqK_next, sFor_ap, aRng_ap, hr2]
    rw [ef]
    have hs := hopF_shift A B g (2 * A.many)
    rcases inner g y6 (by omega) (by omega) with ⟨h1, l', h2, x6, rfl⟩ | ⟨d, l', h1, h2⟩
    · exact .inl ⟨hs ▸ h1, _, h2, _, _, _, _, rfl⟩
    · exact .inr ⟨d, l', hs ▸ h1, h2⟩
  have eb : b_parting_of = sSeq (sSet 2 (eCall d_steps_to (aCons (eBin fIx (eV 0) (eK (.int 0))) aNil))) (sSeq (sFor (aRng rng2 (aCons (eK (.int 1)) (aCons (eBin fIx (eV 0) (eK (.int 0))) aNil))) (gN 3) poGoal) (sRet (eK .non))) := rfl
  have i0 := ix0 A
  have es := steps_to_ok (rw := rw) hhi
  unfold d_parting_of
  rw [dDef2, eb]
  unfold partR partF
  rcases outer with ⟨h1, l', h2, _⟩ | ⟨d, l', h1, h2⟩
  · rw [h1]
    simp -implicitDefEqProofs only [List.replicate, sSeq_ap, sSet_ap, eCall_ap, aCons_ap, aNil_ap, eBin_ap, eV_ap, eK_ap, List.getElem?_cons_succ, List.getElem?_cons_zero, getV_val, bind_ok, i0, ofO_some, es, List.set_cons_succ, List.set_cons_zero, seqK_next, sFor_ap, aRng_ap, hr]
    rw [h2]
    rfl
  · rw [h1]
    simp -implicitDefEqProofs only [List.replicate, sSeq_ap, sSet_ap, eCall_ap, aCons_ap, aNil_ap, eBin_ap, eV_ap, eK_ap, List.getElem?_cons_succ, List.getElem?_cons_zero, getV_val, bind_ok, i0, ofO_some, es, List.set_cons_succ, List.set_cons_zero, seqK_next, sFor_ap, aRng_ap, hr]
    rw [h2]
    rfl
/-- what parts two webs -/
def partD (A B : Web) : D := if A.many = B.many then partR A B (2 * A.many) else .tup [.int ((if (B.many : Int) < (A.many : Int) then (B.many : Int) else (A.many : Int))), .int 1]
theorem partD_comm (A B : Web) : partD A B = partD B A := by
  unfold partD
  by_cases e : A.many = B.many
  · rw [if_pos e, if_pos e.symm, partR_comm e, e]
  · rw [if_neg e, if_neg (show ¬ B.many = A.many from fun z => e z.symm)]
    congr 3
    split <;> split <;> omega
theorem law_parting_ok {A B : Web} {rw : Rw} (hA : WebOk A) (hB : WebOk B) : d__law_parting [dWeb A, dWeb B] rw = .ok (partD A B, rw) := by
  unfold partD
  by_cases e : A.many = B.many
  · rw [if_pos e, law_parting_eq hA hB e, part_60 hA hB e]
  · rw [if_neg e, law_parting_ne e]
theorem parting_ok {A B : Web} {rw : Rw} (hA : WebOk A) (hB : WebOk B) : d_parting [dWeb A, dWeb B] rw = .ok (partD A B, rw) := by
  have h2l : 2 ≤ sizeLine := sl_big (by decide)
  have e1 := need_web_ok (rw := rw) hA
  have e2 := need_web_ok (rw := rw) hB
  have i0 := ix0 A
  have j0 := ix0 B
  unfold d_parting
  rw [dDef2]
  unfold partD
  by_cases e : A.many = B.many
  · have en : fNe (.int (A.many : Int)) (.int (B.many : Int)) = some (.bl false) := by rw [e]; simp
    have ep := parting_of_ok (rw := rw) hA hB e
    rw [if_pos e]
    generalize dWeb A = DA at *
    generalize dWeb B = DB at *
    simp -implicitDefEqProofs only [b_parting, List.replicate, sSeq_ap, sExpr_ap, eCall_ap, aCons_ap, aNil_ap, sIf_ap, toB_ap, eBin_ap, eV_ap, eK_ap, List.getElem?_cons_succ, List.getElem?_cons_zero, getV_val, bind_ok, e1, e2, seqK_next, i0, j0, ofO_some, en, toBK_bl, Bool.false_eq_true, if_false, sNext_ap, sRet_ap, ep, dFin_ret]
  · have en : fNe (.int (A.many : Int)) (.int (B.many : Int)) = some (.bl true) := by simp; omega
    have em : fMin2 [.int (A.many : Int), .int (B.many : Int)] = some (.int ((if (B.many : Int) < (A.many : Int) then (B.many : Int) else (A.many : Int)))) := rfl
    rw [if_neg e]
    generalize dWeb A = DA at *
    generalize dWeb B = DB at *
    simp -implicitDefEqProofs only [b_parting, List.replicate, sSeq_ap, sExpr_ap, eCall_ap, aCons_ap, aNil_ap, sIf_ap, toB_ap, eBin_ap, eV_ap, eK_ap, List.getElem?_cons_succ, List.getElem?_cons_zero, getV_val, bind_ok, e1, e2, seqK_next, i0, j0, ofO_some, en, toBK_bl, if_true, sRet_ap, eTup_ap, eArgs_ap, em, List.length_cons, List.length_nil, Nat.zero_add, Nat.reduceAdd, h2l, seqK_ret, dFin_ret]
/-- a parting is None or two numbers -/
theorem partR_shape (A B : Web) (n : Nat) : partR A B n = .non ∨ ∃ i j : Int, partR A B n = .tup [.int i, .int j] := by
  unfold partR
  cases q : partF A B n with
  | none => exact .inl rfl
  | some d =>
    right
    unfold partF at q
    obtain ⟨g, _, h⟩ := List.exists_of_findSome?_eq_some q
    unfold goalF at h
    obtain ⟨k, _, h⟩ := List.exists_of_findSome?_eq_some h
    unfold hopF at h
    split at h
    · cases h
      exact ⟨_, _, rfl⟩
    · cases h
theorem partD_shape (A B : Web) : partD A B = .non ∨ ∃ i j : Int, partD A B = .tup [.int i, .int j] := by
  unfold partD
  split
  · exact partR_shape A B _
  · exact .inr ⟨_, _, rfl⟩
theorem isNon_part (A B : Web) : ∃ b, isNonD (partD A B) = some (.bl b) := by
  rcases partD_shape A B with h | ⟨i, j, h⟩ <;> rw [h] <;> exact ⟨_, rfl⟩
theorem alike_web_ok {A B : Web} {rw : Rw} {b : Bool} (hA : WebOk A) (hB : WebOk B) (hb : isNonD (partD A B) = some (.bl b)) : d_alike [dWeb A, dWeb B] rw = .ok (.bl b, rw) := by
  have ep := parting_ok (rw := rw) hA hB
  unfold d_alike
  rw [dDef2]
  simp -implicitDefEqProofs only [b_alike, List.replicate, sRet_ap, eUn_ap, eCall_ap, aCons_ap, aNil_ap, eV_ap, List.getElem?_cons_succ, List.getElem?_cons_zero, getV_val, bind_ok, ep, hb, ofO_some, dFin_ret]
end HC
end
section
/-! What returns tell, plainly. -/
namespace HC
open PySem PySem.Spec L2 HD
abbrev An := Option (Bool × Nat)
def dA : An → D
  | none => nothingD
  | some (b, n) => .tup [.str (if b = true then "there" else "gone"), .int (n : Int)]
theorem there_gone : (Str.ofString "there" = Str.ofString "gone") = False := eq_false (by decide +kernel)
theorem eqD_dA (x y : An) : eqD (dA x) (dA y) = decide (x = y) := by
  cases x with
  | none => cases y with
    | none => simp [dA, nothingD]
    | some q => obtain ⟨c, m⟩ := q; simp [dA, nothingD]
  | some p =>
    obtain ⟨b, n⟩ := p
    cases y with
    | none => simp [dA, nothingD]
    | some q =>
      obtain ⟨c, m⟩ := q
      have h2 : (Str.ofString "gone" = Str.ofString "there") = False := eq_false (by decide +kernel)
      cases b <;> cases c <;> simp [dA, there_gone, h2] <;> omega
theorem fit_dA (n : Nat) (x : An) : fit (n + 1) (dA x) = true := by
  cases x with
  | none => exact fit_ansM n [] 0 none
  | some p =>
    obtain ⟨b, m⟩ := p
    show fit (n + 1) (.tup _) = true
    rw [fit_tup]
    simp only [List.all_cons, List.all_nil, fit_str, fit_int]
    cases b <;> decide +kernel
theorem fit_dAs (n : Nat) (as : List An) : fit (n + 2) (.lst (as.map dA)) = true := by
  rw [fit_lst, List.all_eq_true]
  intro d hd
  obtain ⟨x, _, rfl⟩ := List.mem_map.mp hd
  exact fit_dA n x
theorem fEq_dA (x y : An) : fEq (dA x) (dA y) = some (.bl (decide (x = y))) := by
  unfold fEq
  rw [if_pos ⟨fit_dA 7 x, fit_dA 7 y⟩, eqD_dA]
theorem fNe_dA (x y : An) : fNe (dA x) (dA y) = some (.bl (!decide (x = y))) := by
  unfold fNe
  rw [if_pos ⟨fit_dA 7 x, fit_dA 7 y⟩, eqD_dA]
theorem fNe_no (x : An) : fNe (dA x) (.tup [.str "nothing"]) = some (.bl (!decide (x = none))) := fNe_dA x none
def isThere : An → Bool
  | some (true, _) => true
  | _ => false
theorem fEq_there (x : An) : ∃ z, fIx (dA x) (.int 0) = some z ∧ fEq z (.str "there") = some (.bl (isThere x)) := by
  have f1 : fit 8 (.str "there") = true := by rw [fit_str]; decide +kernel
  have f2 : fit 8 (.str "gone") = true := by rw [fit_str]; decide +kernel
  have f3 : fit 8 (.str "nothing") = true := by rw [fit_str]; decide +kernel
  have n1 : decide (Str.ofString "gone" = Str.ofString "there") = false := by decide +kernel
  have n2 : decide (Str.ofString "nothing" = Str.ofString "there") = false := by decide +kernel
  cases x with
  | none =>
    refine ⟨.str "nothing", by simp [dA, nothingD], ?_⟩
    unfold fEq
    rw [if_pos ⟨f3, f1⟩, eqD_str, n2]
    rfl
  | some p =>
    obtain ⟨b, n⟩ := p
    cases b
    · refine ⟨.str "gone", by simp [dA], ?_⟩
      unfold fEq
      rw [if_pos ⟨f2, f1⟩, eqD_str, n1]
      rfl
    · refine ⟨.str "there", by simp [dA], ?_⟩
      unfold fEq
      rw [if_pos ⟨f1, f1⟩, eqD_str]
      simp [isThere]
def atA (as : List An) (i : Nat) : An := (as[i]?).getD none
theorem atA_ix {as : List An} {i : Nat} (h : i < as.length) : L2.atI (as.map dA) (i : Int) = some (dA (atA as i)) := by
  rw [atI_nat_eq, List.getElem?_map, List.getElem?_eq_getElem h]
  unfold atA
  rw [List.getElem?_eq_getElem h]
  rfl
theorem findSome_if {α β : Type} (p : α → Bool) (f : α → β) : ∀ xs : List α, xs.findSome? (fun x => if p x = true then some (f x) else none) = ((xs.filter p).map f).head?
  | [] => rfl
  | x :: xs => by
    rw [List.findSome?_cons, List.filter_cons]
    cases h : p x with
    | true => simp only [if_true, List.map_cons, List.head?_cons]
    | false => simp only [Bool.false_eq_true, if_false]; exact findSome_if p f xs
theorem compL_nf {tg : D → Dl → Option Dl} {c : EM Bool} {e : EM D} {lw : Dl} {rw : Rw} (b : Nat → Bool) (h : Nat → D) : ∀ xs : List Nat, (∀ x ∈ xs, ∃ l1, tg (.int (x : Int)) lw = some l1 ∧ c l1 rw = .ok (b x, rw) ∧ e l1 rw = .ok (h x, rw)) → compL tg c e lw (dNs xs) rw = .ok ((xs.filter b).map h, rw)
  | [], _ => rfl
  | x :: xs, hh => by
    obtain ⟨l1, h1, h2, h3⟩ := hh x (by simp)
    have ih := compL_nf b h xs fun y hy => hh y (List.mem_cons_of_mem _ hy)
    show compL tg c e lw (.int (x : Int) :: dNs xs) rw = _
    unfold compL
    rw [h1]
    cases q : b x with
    | true =>
      rw [List.filter_cons, if_pos q]
      simp only [h2, h3, q, noX_ok, bind_ok, if_true, ih]
      rfl
    | false =>
      rw [List.filter_cons, if_neg (by rw [q]; simp)]
      simp only [h2, q, noX_ok, bind_ok, Bool.false_eq_true, if_false, ih]
/-! ### the first there -/
def thereF (as : List An) (i : Nat) : Option D := if isThere (atA as i) = true then some (.tup [.str "there", .int ((i + 1 : Nat) : Int)]) else none
/-! ### a ring -/
def soonF (as : List An) (late soon : Nat) : Option D := if (decide (atA as soon = atA as late) && !decide (atA as late = none)) = true then some (.tup [.str "ring", .int ((soon + 1 : Nat) : Int), .int ((late : Int) - (soon : Int))]) else none
def ringF (as : List An) (late : Nat) : Option D := (List.range' 0 late).findSome? (soonF as late)
def ringAll (as : List An) : Option D := (List.range' 0 as.length).findSome? (ringF as)
def lastL (as : List An) : List Nat := (List.range' 0 as.length).filter fun k => !decide (atA as k = none)
def lastI (as : List An) : List Int := (lastL as).map fun k => ((k + 1 : Nat) : Int)
def showsM (as : List An) : D := (((List.range' 0 as.length).findSome? (thereF as)).or (ringAll as)).getD (.tup [.str "open", .int (maxI 0 (lastI as))])
theorem firstAt_eq {x : D} : ∀ {ds : List D} {j : Nat} {y : D}, ds[j]? = some y → eqD y x = true → (∀ (i : Nat) (z : D), i < j → ds[i]? = some z → eqD z x = false) → firstAt x ds = some j
  | [], j, y, h, _, _ => by simp at h
  | d :: ds, 0, y, h, e, _ => by
    simp at h
    subst h
    unfold firstAt
    rw [if_pos e]
  | d :: ds, j + 1, y, h, e, f => by
    have h0 := f 0 d (by omega) rfl
    unfold firstAt
    rw [if_neg (by rw [h0]; simp), firstAt_eq (j := j) (by simpa using h) e fun i z hi hz => f (i + 1) z (by omega) (by simpa using hz)]
    rfl
/-- the program's ring, one turn -/
def rgBody : SM := (sIf (tAnd' (toB (eBin fNe (eBin fIx (eV 0) (eV 1)) (eK (.tup [.str "nothing"])))) (toB (eBin (fIn false) (eBin fIx (eV 0) (eV 1)) (eSl (eV 0) pNone (pSome (eV 1)))))) (sSeq (sSet 2 (eMeth "list" fIndex (eV 0) (aCons (eBin fIx (eV 0) (eV 1)) aNil))) (sRet (eTup (aCons (eBin fAdd (eV 2) (eK (.int 1))) (aCons (eBin fSub (eV 1) (eV 2)) aNil))))) sNext)
theorem fIn_dAs (neg : Bool) (x : An) (as : List An) : fIn neg (dA x) (.lst (as.map dA)) = some (.bl (if neg = true then !decide (x ∈ as) else decide (x ∈ as))) := by
  have h1 : fInF neg (dA x) (.lst (as.map dA)) = none := by
    have hf : flatD (dA x) = false := by cases x <;> rfl
    unfold fInF seqOf
    simp [hf]
  have h2 : ((as.map dA).any fun y => eqD y (dA x)) = decide (x ∈ as) := by
    rw [Bool.eq_iff_iff, List.any_eq_true]
    constructor
    · rintro ⟨d, hd, e⟩
      obtain ⟨y, hy, rfl⟩ := List.mem_map.mp hd
      rw [eqD_dA] at e
      have := of_decide_eq_true e
      subst this
      exact decide_eq_true hy
    · intro e
      exact ⟨dA x, List.mem_map.mpr ⟨x, of_decide_eq_true e, rfl⟩, by rw [eqD_dA]; simp⟩
  unfold fIn
  rw [h1]
  simp only []
  have h3 : fInD neg (dA x) (.lst (as.map dA)) = (if fit 8 (dA x) = true ∧ fit 8 (.lst (as.map dA)) = true then some (.bl (if neg = true then !(as.map dA).any (fun y => eqD y (dA x)) else (as.map dA).any fun y => eqD y (dA x))) else none) := rfl
  rw [h3, if_pos ⟨fit_dA 7 x, fit_dAs 6 as⟩, h2]
def ringP (as : List An) (late : Nat) : Option D := ((List.range' 0 late).find? fun s => decide (atA as s = atA as late) && !decide (atA as late = none)).map fun s => .tup [.int ((s + 1 : Nat) : Int), .int ((late : Int) - (s : Int))]
theorem take_mem {as : List An} {late : Nat} (hl : late ≤ as.length) {x : An} : x ∈ as.take late ↔ ∃ s, s < late ∧ atA as s = x := by
  constructor
  · intro h
    obtain ⟨i, hi, e⟩ := List.getElem_of_mem h
    rw [List.length_take] at hi
    refine ⟨i, by omega, ?_⟩
    unfold atA
    rw [List.getElem?_eq_getElem (by omega)]
    rw [List.getElem_take] at e
    exact e
  · rintro ⟨s, hs, rfl⟩
    unfold atA
    rw [List.getElem?_eq_getElem (by omega)]
    refine List.mem_iff_getElem.mpr ⟨s, by rw [List.length_take]; omega, ?_⟩
    rw [List.getElem_take]
    rfl
theorem rg_turn {as : List An} {late : Nat} {rw : Rw} (hl : late < as.length) (x2 : Sl) : (ringP as late = none ∧ rgBody [.val (.lst (as.map dA)), .val (.int (late : Int)), x2] rw = .ok (.next, [.val (.lst (as.map dA)), .val (.int (late : Int)), x2], rw)) ∨ (∃ d l2, ringP as late = some d ∧ rgBody [.val (.lst (as.map dA)), .val (.int (late : Int)), x2] rw = .ok (.ret d, l2, rw)) := by
  have hix := atA_ix hl
  have hne := fNe_no (atA as late)
  have hsl : fSl (.lst (as.map dA)) none (some (late : Int)) = some (.lst ((as.take late).map dA)) := by
    show some (D.lst _) = _
    rw [cut_to (by rw [List.length_map]; omega), List.map_take]
  have hin := fIn_dAs false (atA as late) (as.take late)
  simp only [Bool.false_eq_true, if_false] at hin
  by_cases h0 : atA as late = none
  · have hd : decide (atA as late = none) = true := decide_eq_true h0
    left
    refine ⟨?_, ?_⟩
    · unfold ringP
      rw [List.find?_eq_none.mpr (fun s _ => by rw [hd]; simp)]
      rfl
    · rw [hd] at hne
      generalize as.map dA = DA at *
      simp -implicitDefEqProofs only [rgBody, sIf_ap, tAnd_ap, toB_ap, eBin_ap, eV_ap, eK_ap, List.getElem?_cons_succ, List.getElem?_cons_zero, getV_val, bind_ok, fIx_lst, hix, ofO_some, hne, Bool.not_true, toBK_bl, Bool.false_eq_true, if_false, sNext_ap]
  · have hd : decide (atA as late = none) = false := decide_eq_false h0
    rw [hd] at hne
    by_cases hm : atA as late ∈ as.take late
    · right
      rw [decide_eq_true hm] at hin
      obtain ⟨s0, hs0, es0⟩ := (take_mem (by omega)).mp hm
      cases hf : (List.range' 0 late).find? fun s => decide (atA as s = atA as late) && !decide (atA as late = none) with
      | none =>
        rw [List.find?_eq_none] at hf
        have := hf s0 (List.mem_range'_1.mpr (by omega))
        rw [hd, es0] at this
        simp at this
      | some s =>
        have hp := List.find?_some hf
        have hmem := List.mem_range'_1.mp (List.mem_of_find?_eq_some hf)
        have hbefore : ∀ i, i < s → atA as i ≠ atA as late := fun i hi e => by
          rw [List.find?_eq_some_iff_getElem] at hf
          obtain ⟨_, k, hk, e1, e2⟩ := hf
          rw [List.getElem_range'] at e1
          have hk2 : k = s := by omega
          have := e2 i (by omega)
          rw [List.getElem_range', hd] at this
          simp [e] at this
        rw [hd] at hp
        simp at hp
        have hidx : fIndex (.lst (as.map dA)) [dA (atA as late)] = some (.int (s : Nat)) := by
          have h3 : fIndex (.lst (as.map dA)) [dA (atA as late)] = (if fit 8 (.lst (as.map dA)) = true ∧ fit 8 (dA (atA as late)) = true then (firstAt (dA (atA as late)) (as.map dA)).map fun j => D.int (j : Nat) else none) := rfl
          rw [h3, if_pos ⟨fit_dAs 6 as, fit_dA 7 _⟩]
          rw [firstAt_eq (j := s) (y := dA (atA as s)) (by
            have := atA_ix (as := as) (i := s) (by omega)
            rw [atI_nat_eq] at this
            exact this) (by rw [eqD_dA]; exact decide_eq_true hp) fun i z hi hz => by
              have := atA_ix (as := as) (i := i) (by omega)
              rw [atI_nat_eq, hz] at this
              cases this
              rw [eqD_dA]
              exact decide_eq_false (hbefore i hi)]
          rfl
        have h2 : 2 ≤ sizeLine := sl_big (by decide)
        have hs1 : fAdd (.int (s : Int)) (.int 1) = some (.int ((s + 1 : Nat) : Int)) := rfl
        refine ⟨_, [.val (.lst (as.map dA)), .val (.int (late : Int)), .val (.int (s : Int))], by unfold ringP; rw [hf]; rfl, ?_⟩
        simp -implicitDefEqProofs only [rgBody, sIf_ap, tAnd_ap, toB_ap, eBin_ap, eV_ap, eK_ap, List.getElem?_cons_succ, List.getElem?_cons_zero, getV_val, bind_ok, fIx_lst, hix, ofO_some, hne, Bool.not_false, toBK_bl, if_true, eSl_ap, pNone_ap, pSome_ap, hsl, hin, sSeq_ap, sSet_ap, eMeth_ap, tyV_lst, aCons_ap, aNil_ap, hidx, List.set_cons_succ, List.set_cons_zero, seqK_next, sRet_ap, eTup_ap, hs1, fSub_int, List.length_cons, List.length_nil, Nat.zero_add, Nat.reduceAdd, h2]
    · left
      rw [decide_eq_false hm] at hin
      refine ⟨?_, ?_⟩
      · unfold ringP
        rw [List.find?_eq_none.mpr (fun s hs => ?_)]
        · rfl
        · have hs := List.mem_range'_1.mp hs
          have : ¬ atA as s = atA as late := fun e => hm ((take_mem (by omega)).mpr ⟨s, by omega, e⟩)
          simp [this]
      · generalize hDA : as.map dA = DA at *
        simp -implicitDefEqProofs only [rgBody, sIf_ap, tAnd_ap, toB_ap, eBin_ap, eV_ap, eK_ap, List.getElem?_cons_succ, List.getElem?_cons_zero, getV_val, bind_ok, fIx_lst, hix, ofO_some, hne, Bool.not_false, toBK_bl, if_true, eSl_ap, pNone_ap, pSome_ap, hsl, hin, Bool.false_eq_true, if_false, sNext_ap]
end HC
end
section
namespace HC
open PySem PySem.Spec L2 HD
theorem rng_as {n : Nat} (h : n ≤ 100) : rng1 [.int (n : Int)] = some (dNs (List.range' 0 n)) := by
  rw [← rangeD_dNs]
  exact rng1_of' rfl h
theorem rng_len {as : List An} (h : as.length ≤ 100) : rng1 [.int ((as.map dA).length : Nat)] = some (dNs (List.range' 0 as.length)) := by
  rw [List.length_map]
  exact rng_as h
def ringPAll (as : List An) : Option D := (List.range' 0 as.length).findSome? (ringP as)
theorem ring_in_ok {as : List An} {rw : Rw} (h : as.length ≤ 100) : d_ring_in [.lst (as.map dA)] rw = .ok ((ringPAll as).getD .non, rw) := by
  have lp := loop_find (tg := gN 1) (body := rgBody) (fun l => ∃ x1 x2, l = [.val (.lst (as.map dA)), x1, x2]) (ringP as) rw (List.range' 0 as.length) [.val (.lst (as.map dA)), .no, .no] ⟨_, _, rfl⟩ fun k hk l ⟨y1, y2, hl⟩ => by
    subst hl
    have hk := List.mem_range'_1.mp hk
    refine ⟨[.val (.lst (as.map dA)), .val (.int (k : Int)), y2], rfl, ?_⟩
    rcases rg_turn (rw := rw) (as := as) (late := k) (by omega) y2 with ⟨h1, h2⟩ | ⟨d, l2, h1, h2⟩
    · exact .inl ⟨h1, _, h2, _, _, rfl⟩
    · exact .inr ⟨d, l2, h1, h2⟩
  have hr := rng_len h
  have eb : b_ring_in = sSeq (sFor (aRng rng1 (aCons (eArgs fLen (aCons (eV 0) aNil)) aNil)) (gN 1) rgBody) (sRet (eK .non)) := rfl
  unfold d_ring_in
  rw [dDef1, eb]
  unfold ringPAll
  rcases lp with ⟨h1, l', h2, _⟩ | ⟨d, l', h1, h2⟩
  · rw [h1]
    generalize as.map dA = DA at *
    simp -implicitDefEqProofs only [List.replicate, sSeq_ap, sFor_ap, aRng_ap, aCons_ap, aNil_ap, eArgs_ap, eV_ap, List.getElem?_cons_zero, getV_val, bind_ok, fLen_lst, ofO_some, hr, h2, seqK_next, sRet_ap, eK_ap, dFin_ret, Option.getD_none]
  · rw [h1]
    generalize as.map dA = DA at *
    simp -implicitDefEqProofs only [List.replicate, sSeq_ap, sFor_ap, aRng_ap, aCons_ap, aNil_ap, eArgs_ap, eV_ap, List.getElem?_cons_zero, getV_val, bind_ok, fLen_lst, ofO_some, hr, h2, seqK_ret, dFin_ret, Option.getD_some]
theorem ringF_find (as : List An) (late : Nat) : ringF as late = ((List.range' 0 late).find? fun s => decide (atA as s = atA as late) && !decide (atA as late = none)).map fun s => .tup [.str "ring", .int ((s + 1 : Nat) : Int), .int ((late : Int) - (s : Int))] := by
  unfold ringF
  have : soonF as late = fun s => if (fun s => decide (atA as s = atA as late) && !decide (atA as late = none)) s = true then some ((fun s => D.tup [.str "ring", .int ((s + 1 : Nat) : Int), .int ((late : Int) - (s : Int))]) s) else none := by
    funext s
    rfl
  rw [this, findSome_if, List.head?_map, List.head?_filter]
theorem ring_both (as : List An) (late : Nat) : (ringP as late = none ∧ ringF as late = none) ∨ ∃ a b : Int, ringP as late = some (.tup [.int a, .int b]) ∧ ringF as late = some (.tup [.str "ring", .int a, .int b]) := by
  rw [ringF_find]
  unfold ringP
  cases (List.range' 0 late).find? fun s => decide (atA as s = atA as late) && !decide (atA as late = none) with
  | none => exact .inl ⟨rfl, rfl⟩
  | some s => exact .inr ⟨_, _, rfl, rfl⟩
theorem ring_all (as : List An) : (ringPAll as = none ∧ ringAll as = none) ∨ ∃ a b : Int, ringPAll as = some (.tup [.int a, .int b]) ∧ ringAll as = some (.tup [.str "ring", .int a, .int b]) := by
  unfold ringPAll ringAll
  generalize List.range' 0 as.length = xs
  induction xs with
  | nil => exact .inl ⟨rfl, rfl⟩
  | cons x xs ih =>
    rw [List.findSome?_cons, List.findSome?_cons]
    rcases ring_both as x with ⟨h1, h2⟩ | ⟨a, b, h1, h2⟩
    · rw [h1, h2]; exact ih
    · rw [h1, h2]; exact .inr ⟨a, b, rfl, rfl⟩
theorem toInts_map : ∀ ns : List Int, toInts (ns.map D.int) = some ns
  | [] => rfl
  | n :: ns => by
    show (toInts (ns.map D.int)).map (n :: ·) = _
    rw [toInts_map ns]
    rfl
theorem lastI_pos (as : List An) : ∀ y ∈ lastI as, 0 < y := fun y hy => by
  unfold lastI at hy
  obtain ⟨k, _, rfl⟩ := List.mem_map.mp hy
  omega
theorem maxI_zero (as : List An) : maxI 0 (0 :: lastI as) = maxI 0 (lastI as) := by
  have hp := lastI_pos as
  generalize lastI as = ns at *
  cases ns with
  | nil => rfl
  | cons y r =>
    obtain ⟨h1, _⟩ := maxI_ok 0 (y :: r) (by simp)
    have := hp _ h1
    show (if maxI 0 (y :: r) ≤ 0 then 0 else maxI 0 (y :: r)) = _
    rw [if_neg (by omega)]
def shThere : SM := (sIf (toB (eBin fEq (eBin fIx (eBin fIx (eV 0) (eV 1)) (eK (.int 0))) (eK (.str "there")))) (sRet (eTup (aCons (eK (.str "there")) (aCons (eBin fAdd (eV 1) (eK (.int 1))) aNil)))) sNext)
theorem last_comp {as : List An} {rw : Rw} (lw l1 : Nat → Dl) (tgt : Nat) (e : EM D) (c : EM Bool) (l0 : Dl)
    (h1 : ∀ k, k < as.length → gN tgt (.int (k : Int)) l0 = some (l1 k)) (h2 : ∀ k, k < as.length → c (l1 k) rw = .ok (!decide (atA as k = none), rw)) (h3 : ∀ k, k < as.length → e (l1 k) rw = .ok (.int ((k + 1 : Nat) : Int), rw)) :
    compL (gN tgt) c e l0 (dNs (List.range' 0 as.length)) rw = .ok ((lastI as).map D.int, rw) := by
  have := compL_nf (tg := gN tgt) (c := c) (e := e) (lw := l0) (rw := rw) (fun k => !decide (atA as k = none)) (fun k => .int ((k + 1 : Nat) : Int)) (List.range' 0 as.length) fun k hk => by
    have hk := List.mem_range'_1.mp hk
    exact ⟨l1 k, h1 k (by omega), h2 k (by omega), h3 k (by omega)⟩
  rw [this]
  unfold lastI lastL
  rw [List.map_map]
  rfl
theorem shows_ok {as : List An} {rw : Rw} (h : as.length ≤ 100) : d_shows [.lst (as.map dA)] rw = .ok (showsM as, rw) := by
  have h2l : 2 ≤ sizeLine := sl_big (by decide)
  have h3l : 3 ≤ sizeLine := sl_big (by decide)
  have lp := loop_find (tg := gN 1) (body := shThere) (fun l => ∃ x1, l = [.val (.lst (as.map dA)), x1, .no]) (thereF as) rw (List.range' 0 as.length) [.val (.lst (as.map dA)), .no, .no] ⟨_, rfl⟩ fun k hk l ⟨y1, hl⟩ => by
    subst hl
    have hk := List.mem_range'_1.mp hk
    have hix := atA_ix (as := as) (i := k) (by omega)
    obtain ⟨z, hz1, hz2⟩ := fEq_there (atA as k)
    have hs1 : fAdd (.int (k : Int)) (.int 1) = some (.int ((k + 1 : Nat) : Int)) := rfl
    refine ⟨[.val (.lst (as.map dA)), .val (.int (k : Int)), .no], rfl, ?_⟩
    unfold thereF
    cases q : isThere (atA as k) with
    | false =>
      rw [q] at hz2
      refine .inl ⟨rfl, [.val (.lst (as.map dA)), .val (.int (k : Int)), .no], ?_, _, rfl⟩
      simp -implicitDefEqProofs only [shThere, sIf_ap, toB_ap, eBin_ap, eV_ap, eK_ap, List.getElem?_cons_succ, List.getElem?_cons_zero, getV_val, bind_ok, fIx_lst, hix, hz1, hz2, ofO_some, toBK_bl, Bool.false_eq_true, if_false, sNext_ap]
    | true =>
      rw [q] at hz2
      refine .inr ⟨_, [.val (.lst (as.map dA)), .val (.int (k : Int)), .no], rfl, ?_⟩
      simp -implicitDefEqProofs only [shThere, sIf_ap, toB_ap, eBin_ap, eV_ap, eK_ap, List.getElem?_cons_succ, List.getElem?_cons_zero, getV_val, bind_ok, fIx_lst, hix, hz1, hz2, ofO_some, toBK_bl, if_true, sRet_ap, eTup_ap, aCons_ap, aNil_ap, hs1, List.length_cons, List.length_nil, Nat.zero_add, Nat.reduceAdd, h2l]
  have hr := rng_len h
  have er := ring_in_ok (rw := rw) h
  have eb : b_shows = sSeq (sFor (aRng rng1 (aCons (eArgs fLen (aCons (eV 0) aNil)) aNil)) (gN 1) shThere) (sSeq (sSet 2 (eCall d_ring_in (aCons (eV 0) aNil))) (sSeq (sIf (toB (eUn notNonD (eV 2))) (sRet (eTup (aCons (eK (.str "ring")) (aCons (eBin fIx (eV 2) (eK (.int 0))) (aCons (eBin fIx (eV 2) (eK (.int 1))) aNil))))) sNext) (sRet (eTup (aCons (eK (.str "open")) (aCons (eArgs (fMaxD 0) (aCons (eComp (aRng rng1 (aCons (eArgs fLen (aCons (eV 0) aNil)) aNil)) (gN 1) (toB (eBin fNe (eBin fIx (eV 0) (eV 1)) (eK (.tup [.str "nothing"])))) (eBin fAdd (eV 1) (eK (.int 1))) [1]) aNil)) aNil)))))) := rfl
  unfold d_shows
  rw [dDef1, eb]
  unfold showsM
  rcases lp with ⟨h1, l', h2, x1, rfl⟩ | ⟨d, l', h1, h2⟩
  · rw [h1, Option.none_or]
    rcases ring_all as with ⟨r1, r2⟩ | ⟨a, b, r1, r2⟩
    · rw [r1] at er
      rw [r2, Option.getD_none]
      have ec := last_comp (as := as) (rw := rw) (fun _ => []) (fun k => [.val (.lst (as.map dA)), .val (.int (k : Int)), .val .non]) 1 (eBin fAdd (eV 1) (eK (.int 1))) (toB (eBin fNe (eBin fIx (eV 0) (eV 1)) (eK (.tup [.str "nothing"])))) [.val (.lst (as.map dA)), .no, .val .non] (fun k _ => rfl) (fun k hk => by
          have hix := atA_ix hk
          have hn := fNe_no (atA as k)
          simp -implicitDefEqProofs only [toB_ap, eBin_ap, eV_ap, eK_ap, List.getElem?_cons_succ, List.getElem?_cons_zero, getV_val, bind_ok, fIx_lst, hix, ofO_some, hn, toBK_bl]) fun k _ => rfl
      have hw : wipeD [.val (.lst (as.map dA)), x1, .val .non] [1] = [.val (.lst (as.map dA)), .no, .val .non] := rfl
      have hl : (dNs (List.range' 0 as.length)).length ≤ sizeLine := sl_big (by rw [dNs_len]; simp; omega)
      have em : fMaxD 0 [.lst ((lastI as).map D.int)] = some (.int (maxI 0 (lastI as))) := by
        show (toInts _).map _ = _
        rw [toInts_map]
        rfl
      have eg : (none : Option D).getD .non = .non := rfl
      rw [eg] at er
      generalize as.map dA = DA at *
      simp -implicitDefEqProofs only [List.replicate, sSeq_ap, sFor_ap, aRng_ap, aCons_ap, aNil_ap, eArgs_ap, eV_ap, List.getElem?_cons_succ, List.getElem?_cons_zero, getV_val, bind_ok, fLen_lst, ofO_some, hr, h2, seqK_next, sSet_ap, eCall_ap, er, List.set_cons_succ, List.set_cons_zero, sIf_ap, toB_ap, eUn_ap, notNon_non, toBK_bl, Bool.false_eq_true, if_false, sNext_ap, sRet_ap, eTup_ap, eK_ap, eComp_ap, hl, if_true, hw, ec, em, List.length_cons, List.length_nil, Nat.zero_add, Nat.reduceAdd, h2l, dFin_ret]
    · rw [r1] at er
      rw [r2, Option.getD_some]
      have eg : (some (.tup [.int a, .int b]) : Option D).getD .non = .tup [.int a, .int b] := rfl
      rw [eg] at er
      generalize as.map dA = DA at *
      simp -implicitDefEqProofs only [List.replicate, sSeq_ap, sFor_ap, aRng_ap, aCons_ap, aNil_ap, eArgs_ap, eV_ap, List.getElem?_cons_succ, List.getElem?_cons_zero, getV_val, bind_ok, fLen_lst, ofO_some, hr, h2, seqK_next, sSet_ap, eCall_ap, er, List.set_cons_succ, List.set_cons_zero, sIf_ap, toB_ap, eUn_ap, notNon_tup, toBK_bl, if_true, sRet_ap, eTup_ap, eK_ap, eBin_ap, fIx_tup, atI_zero, atI_one, List.length_cons, List.length_nil, Nat.zero_add, Nat.reduceAdd, h3l, seqK_ret, dFin_ret]
  · rw [h1, Option.some_or, Option.getD_some]
    generalize as.map dA = DA at *
    simp -implicitDefEqProofs only [List.replicate, sSeq_ap, sFor_ap, aRng_ap, aCons_ap, aNil_ap, eArgs_ap, eV_ap, List.getElem?_cons_zero, getV_val, bind_ok, fLen_lst, ofO_some, hr, h2, seqK_ret, dFin_ret]
end HC
end
section
namespace HC
open PySem PySem.Spec L2 HD
/-! ### the law's own telling -/
def lfHop : SM := (sIf (tAnd' (toB (eBin fEq (eBin fIx (eV 0) (eV 3)) (eBin fIx (eV 0) (eV 2)))) (toB (eBin fNe (eBin fIx (eV 0) (eV 2)) (eTup (aCons (eK (.str "nothing")) aNil))))) (sRet (eTup (aCons (eK (.str "ring")) (aCons (eBin fAdd (eV 3) (eK (.int 1))) (aCons (eBin fSub (eV 2) (eV 3)) aNil))))) sNext)
theorem thereF_head (as : List An) : (List.range' 0 as.length).findSome? (thereF as) = ((List.range' 0 as.length).filter fun i => isThere (atA as i)).head?.map fun (i : Nat) => D.tup [.str "there", .int ((i + 1 : Nat) : Int)] := by
  have : thereF as = fun i => if (fun i => isThere (atA as i)) i = true then some ((fun (i : Nat) => D.tup [.str "there", .int ((i + 1 : Nat) : Int)]) i) else none := by
    funext i
    rfl
  rw [this, findSome_if, List.head?_map]
theorem law_found_ok {as : List An} {rw : Rw} (h : as.length ≤ 100) : d__law_found [.lst (as.map dA)] rw = .ok (showsM as, rw) := by
  have h1l : 1 ≤ sizeLine := sl_big (by decide)
  have h2l : 2 ≤ sizeLine := sl_big (by decide)
  have h3l : 3 ≤ sizeLine := sl_big (by decide)
  have h0l : 0 ≤ sizeLine := Nat.zero_le _
  have hr := rng_len h
  have hl : (dNs (List.range' 0 as.length)).length ≤ sizeLine := sl_big (by rw [dNs_len]; simp; omega)
  -- the theres
  have ec := compL_nf (tg := gN 4) (c := toB (eBin fEq (eBin fIx (eBin fIx (eV 0) (eV 4)) (eK (.int 0))) (eK (.str "there")))) (e := eBin fAdd (eV 4) (eK (.int 1))) (lw := [.val (.lst (as.map dA)), .no, .no, .no, .no]) (rw := rw) (fun i => isThere (atA as i)) (fun i => .int ((i + 1 : Nat) : Int)) (List.range' 0 as.length) fun k hk => by
    have hk := List.mem_range'_1.mp hk
    have hix := atA_ix (as := as) (i := k) (by omega)
    obtain ⟨z, hz1, hz2⟩ := fEq_there (atA as k)
    refine ⟨[.val (.lst (as.map dA)), .no, .no, .no, .val (.int (k : Int))], rfl, ?_, rfl⟩
    simp -implicitDefEqProofs only [toB_ap, eBin_ap, eV_ap, eK_ap, List.getElem?_cons_succ, List.getElem?_cons_zero, getV_val, bind_ok, fIx_lst, hix, hz1, hz2, ofO_some, toBK_bl]
  have hw : wipeD [.val (.lst (as.map dA)), .no, .no, .no, .no] [4] = [.val (.lst (as.map dA)), .no, .no, .no, .no] := rfl
  have eb : b__law_found = sSeq (sSet 1 (eComp (aRng rng1 (aCons (eArgs fLen (aCons (eV 0) aNil)) aNil)) (gN 4) (toB (eBin fEq (eBin fIx (eBin fIx (eV 0) (eV 4)) (eK (.int 0))) (eK (.str "there")))) (eBin fAdd (eV 4) (eK (.int 1))) [4])) (sSeq (sIf (toB (eBin fNe (eV 1) (eLst aNil))) (sRet (eTup (aCons (eK (.str "there")) (aCons (eBin fIx (eV 1) (eK (.int 0))) aNil)))) sNext) (sSeq (sFor (aRng rng1 (aCons (eArgs fLen (aCons (eV 0) aNil)) aNil)) (gN 2) (sFor (aRng rng1 (aCons (eV 2) aNil)) (gN 3) lfHop)) (sRet (eTup (aCons (eK (.str "open")) (aCons (eArgs fMax1 (aCons (eBin fAdd (eLst (aCons (eK (.int 0)) aNil)) (eComp (aRng rng1 (aCons (eArgs fLen (aCons (eV 0) aNil)) aNil)) (gN 4) (toB (eBin fNe (eBin fIx (eV 0) (eV 4)) (eTup (aCons (eK (.str "nothing")) aNil)))) (eBin fAdd (eV 4) (eK (.int 1))) [4])) aNil)) aNil)))))) := rfl
  unfold d__law_found
  rw [dDef1, eb]
  unfold showsM
  rw [thereF_head]
  cases hf : (List.range' 0 as.length).filter fun i => isThere (atA as i) with
  | cons t ts =>
    rw [hf] at ec
    have hne : fNe (.lst ((t :: ts).map fun (i : Nat) => D.int ((i + 1 : Nat) : Int))) (.lst []) = some (.bl true) := by
      rw [List.map_cons]
      refine fNe_cn _ _ ?_
      rw [fit_lst, List.all_eq_true]
      intro x hx
      rcases List.mem_cons.mp hx with rfl | hx
      · exact fit_int _ _
      · obtain ⟨i, _, rfl⟩ := List.mem_map.mp hx
        exact fit_int _ _
    have hix : L2.atI ((t :: ts).map fun (i : Nat) => D.int ((i + 1 : Nat) : Int)) 0 = some (.int ((t + 1 : Nat) : Int)) := by rw [List.map_cons]; exact atI_zero _ _
    have hh : ((t :: ts).head?.map fun (i : Nat) => D.tup [.str "there", .int ((i + 1 : Nat) : Int)]) = some (D.tup [.str "there", .int ((t + 1 : Nat) : Int)]) := rfl
    rw [hh, Option.some_or, Option.getD_some]
    generalize ((t :: ts).map fun (i : Nat) => D.int ((i + 1 : Nat) : Int)) = TD at *
    generalize as.map dA = DA at *
    simp -implicitDefEqProofs only [List.replicate, sSeq_ap, sSet_ap, eComp_ap, aRng_ap, aCons_ap, aNil_ap, eArgs_ap, eV_ap, List.getElem?_cons_succ, List.getElem?_cons_zero, getV_val, bind_ok, fLen_lst, ofO_some, hr, hl, if_true, hw, ec, List.set_cons_succ, List.set_cons_zero, seqK_next, sIf_ap, toB_ap, eBin_ap, eLst_ap, List.length_nil, h0l, hne, toBK_bl, sRet_ap, eTup_ap, eK_ap, fIx_lst, hix, List.length_cons, Nat.zero_add, Nat.reduceAdd, h2l, seqK_ret, dFin_ret]
  | nil =>
    rw [hf] at ec
    have hne : fNe (.lst []) (.lst []) = some (.bl false) := fNe_self (n := 8) (by decide) rfl
    have hh : (([] : List Nat).head?.map fun (i : Nat) => D.tup [.str "there", .int ((i + 1 : Nat) : Int)]) = none := rfl
    rw [hh, Option.none_or]
    have em0 : (([] : List Nat).map fun (i : Nat) => D.int ((i + 1 : Nat) : Int)) = [] := rfl
    rw [em0] at ec
    have inner : ∀ late x3, late < as.length → _ := fun late x3 hlate => loop_find (tg := gN 3) (body := lfHop) (fun l => ∃ x3, l = [.val (.lst (as.map dA)), .val (.lst []), .val (.int (late : Int)), x3, .no]) (soonF as late) rw (List.range' 0 late) [.val (.lst (as.map dA)), .val (.lst []), .val (.int (late : Int)), x3, .no] ⟨_, rfl⟩ fun s hs l ⟨y3, hl⟩ => by
      subst hl
      have hs := List.mem_range'_1.mp hs
      have i1 := atA_ix (as := as) (i := s) (by omega)
      have i2 := atA_ix (as := as) (i := late) hlate
      have e1 := fEq_dA (atA as s) (atA as late)
      have e2 := fNe_no (atA as late)
      have hs1 : fAdd (.int (s : Int)) (.int 1) = some (.int ((s + 1 : Nat) : Int)) := rfl
      refine ⟨[.val (.lst (as.map dA)), .val (.lst []), .val (.int (late : Int)), .val (.int (s : Int)), .no], rfl, ?_⟩
      unfold soonF
      cases q1 : decide (atA as s = atA as late) with
      | false =>
        rw [q1] at e1
        refine .inl ⟨rfl, [.val (.lst (as.map dA)), .val (.lst []), .val (.int (late : Int)), .val (.int (s : Int)), .no], ?_, _, rfl⟩
        simp -implicitDefEqProofs only [lfHop, sIf_ap, tAnd_ap, toB_ap, eBin_ap, eV_ap, List.getElem?_cons_succ, List.getElem?_cons_zero, getV_val, bind_ok, fIx_lst, i1, i2, ofO_some, e1, toBK_bl, Bool.false_eq_true, if_false, sNext_ap]
      | true =>
        rw [q1] at e1
        cases q2 : decide (atA as late = none) with
        | true =>
          rw [q2] at e2
          refine .inl ⟨rfl, [.val (.lst (as.map dA)), .val (.lst []), .val (.int (late : Int)), .val (.int (s : Int)), .no], ?_, _, rfl⟩
          simp -implicitDefEqProofs only [lfHop, sIf_ap, tAnd_ap, toB_ap, eBin_ap, eV_ap, eK_ap, eTup_ap, aCons_ap, aNil_ap, List.length_cons, List.length_nil, Nat.zero_add, h1l, List.getElem?_cons_succ, List.getElem?_cons_zero, getV_val, bind_ok, fIx_lst, i1, i2, ofO_some, e1, e2, Bool.not_true, toBK_bl, if_true, Bool.false_eq_true, if_false, sNext_ap]
        | false =>
          rw [q2] at e2
          refine .inr ⟨_, [.val (.lst (as.map dA)), .val (.lst []), .val (.int (late : Int)), .val (.int (s : Int)), .no], rfl, ?_⟩
          simp -implicitDefEqProofs only [lfHop, sIf_ap, tAnd_ap, toB_ap, eBin_ap, eV_ap, eK_ap, eTup_ap, aCons_ap, aNil_ap, List.length_cons, List.length_nil, Nat.zero_add, Nat.reduceAdd, h1l, h3l, List.getElem?_cons_succ, List.getElem?_cons_zero, getV_val, bind_ok, fIx_lst, i1, i2, ofO_some, e1, e2, Bool.not_false, toBK_bl, if_true, sRet_ap, hs1, fSub_int]
    have outer := loop_find (tg := gN 2) (body := sFor (aRng rng1 (aCons (eV 2) aNil)) (gN 3) lfHop) (fun l => ∃ x2 x3, l = [.val (.lst (as.map dA)), .val (.lst []), x2, x3, .no]) (ringF as) rw (List.range' 0 as.length) [.val (.lst (as.map dA)), .val (.lst []), .no, .no, .no] ⟨_, _, rfl⟩ fun late hk l ⟨y2, y3, hl⟩ => by
      subst hl
      have hk := List.mem_range'_1.mp hk
      refine ⟨[.val (.lst (as.map dA)), .val (.lst []), .val (.int (late : Int)), y3, .no], rfl, ?_⟩
      have hr2 := rng_as (n := late) (by omega)
      have ef : sFor (aRng rng1 (aCons (eV 2) aNil)) (gN 3) lfHop [.val (.lst (as.map dA)), .val (.lst []), .val (.int (late : Int)), y3, .no] rw = sLoop (gN 3) lfHop (dNs (List.range' 0 late)) [.val (.lst (as.map dA)), .val (.lst []), .val (.int (late : Int)), y3, .no] rw := by
        simp -implicitDefEqProofs only [sFor_ap, aRng_ap, aCons_ap, aNil_ap, eV_ap, List.getElem?_cons_succ, List.getElem?_cons_zero, getV_val, bind_ok, hr2, ofO_some]
      rw [ef]
      rcases inner late y3 (by omega) with ⟨h1, l', h2, x3, rfl⟩ | ⟨d, l', h1, h2⟩
      · exact .inl ⟨h1, _, h2, _, _, rfl⟩
      · exact .inr ⟨d, l', h1, h2⟩
    unfold ringAll
    rcases outer with ⟨h1, l', h2, x2, x3, rfl⟩ | ⟨d, l', h1, h2⟩
    · rw [h1, Option.getD_none]
      have ec2 := last_comp (as := as) (rw := rw) (fun _ => []) (fun k => [.val (.lst (as.map dA)), .val (.lst []), x2, x3, .val (.int (k : Int))]) 4 (eBin fAdd (eV 4) (eK (.int 1))) (toB (eBin fNe (eBin fIx (eV 0) (eV 4)) (eTup (aCons (eK (.str "nothing")) aNil)))) [.val (.lst (as.map dA)), .val (.lst []), x2, x3, .no] (fun k _ => rfl) (fun k hk => by
          have hix := atA_ix hk
          have hn := fNe_no (atA as k)
          simp -implicitDefEqProofs only [toB_ap, eBin_ap, eV_ap, eK_ap, eTup_ap, aCons_ap, aNil_ap, List.length_cons, List.length_nil, Nat.zero_add, h1l, if_true, List.getElem?_cons_succ, List.getElem?_cons_zero, getV_val, bind_ok, fIx_lst, hix, ofO_some, hn, toBK_bl]) fun k _ => rfl
      have hw2 : wipeD [.val (.lst (as.map dA)), .val (.lst []), x2, x3, .no] [4] = [.val (.lst (as.map dA)), .val (.lst []), x2, x3, .no] := rfl
      have hll : (lastI as).length ≤ 100 := by
        unfold lastI lastL
        rw [List.length_map]
        exact Nat.le_trans (List.length_filter_le _ _) (by simp; omega)
      have ecat : fAdd (.lst [.int 0]) (.lst ((lastI as).map D.int)) = some (.lst ((0 :: lastI as).map D.int)) := by
        rw [fAdd_lst _ _ (by simp; omega)]
        rfl
      have em : fMax1 [.lst ((0 :: lastI as).map D.int)] = some (.int (maxI 0 (lastI as))) := by
        rw [fMax1, toInts_map]
        simp only []
        rw [maxI_zero]
      generalize as.map dA = DA at *
      generalize ((0 :: lastI as).map D.int) = LD at *
      simp -implicitDefEqProofs only [List.replicate, sSeq_ap, sSet_ap, eComp_ap, aRng_ap, aCons_ap, aNil_ap, eArgs_ap, eV_ap, List.getElem?_cons_succ, List.getElem?_cons_zero, getV_val, bind_ok, fLen_lst, ofO_some, hr, hl, if_true, hw, ec, List.set_cons_succ, List.set_cons_zero, seqK_next, sIf_ap, toB_ap, eBin_ap, eLst_ap, List.length_nil, h0l, hne, toBK_bl, Bool.false_eq_true, if_false, sNext_ap]
      rw [sFor_ap]
      simp -implicitDefEqProofs only [aRng_ap, aCons_ap, aNil_ap, eArgs_ap, eV_ap, List.getElem?_cons_zero, getV_val, bind_ok, fLen_lst, ofO_some, hr, h2, seqK_next, sRet_ap, eTup_ap, eK_ap, eBin_ap, eLst_ap, eComp_ap, List.length_cons, List.length_nil, Nat.zero_add, Nat.reduceAdd, h1l, h2l, hl, if_true, hw2, ec2, ecat, em, dFin_ret]
    · rw [h1, Option.getD_some]
      generalize as.map dA = DA at *
      simp -implicitDefEqProofs only [List.replicate, sSeq_ap, sSet_ap, eComp_ap, aRng_ap, aCons_ap, aNil_ap, eArgs_ap, eV_ap, List.getElem?_cons_succ, List.getElem?_cons_zero, getV_val, bind_ok, fLen_lst, ofO_some, hr, hl, if_true, hw, ec, List.set_cons_succ, List.set_cons_zero, seqK_next, sIf_ap, toB_ap, eBin_ap, eLst_ap, List.length_nil, h0l, hne, toBK_bl, Bool.false_eq_true, if_false, sNext_ap]
      rw [sFor_ap]
      simp -implicitDefEqProofs only [aRng_ap, aCons_ap, aNil_ap, eArgs_ap, eV_ap, List.getElem?_cons_zero, getV_val, bind_ok, fLen_lst, ofO_some, hr, h2, seqK_ret, dFin_ret]
end HC
end
section
namespace HC
open PySem PySem.Spec L2 HD
def nm (x : An) : Option Nat := x.map Prod.snd
def dP (p : Nat × Nat) : D := .tup [.int (p.1 : Int), .int (p.2 : Int)]
def stepM (ps : List (Nat × Nat)) : Option Nat → Option Nat → List (Nat × Nat)
  | some a, some b => if a = b then ps else if (a, b) ∈ ps then ps else ps ++ [(a, b)]
  | _, _ => ps
def stepsFrom : Option Nat → List (Option Nat) → List (Nat × Nat) → List (Nat × Nat)
  | _, [], ps => ps
  | a, b :: r, ps => stepsFrom b r (stepM ps a b)
theorem stepM_some (ps : List (Nat × Nat)) (a b : Nat) : stepM ps (some a) (some b) = if a = b then ps else if (a, b) ∈ ps then ps else ps ++ [(a, b)] := rfl
theorem stepM_len (ps : List (Nat × Nat)) (a b : Option Nat) : (stepM ps a b).length ≤ ps.length + 1 := by
  cases a with
  | none => exact Nat.le_succ _
  | some x => cases b with
    | none => exact Nat.le_succ _
    | some y =>
      rw [stepM_some]
      split
      · exact Nat.le_succ _
      · split
        · exact Nat.le_succ _
        · simp
theorem stepsFrom_len : ∀ (r : List (Option Nat)) (a : Option Nat) (ps : List (Nat × Nat)), (stepsFrom a r ps).length ≤ ps.length + r.length
  | [], _, _ => Nat.le_refl _
  | b :: r, a, ps => by
    have := stepsFrom_len r b (stepM ps a b)
    have := stepM_len ps a b
    show (stepsFrom b r (stepM ps a b)).length ≤ ps.length + (r.length + 1)
    omega
theorem eqD_dP (p q : Nat × Nat) : eqD (dP p) (dP q) = decide (p = q) := by
  obtain ⟨a, b⟩ := p
  obtain ⟨c, d⟩ := q
  rw [Bool.eq_iff_iff]
  simp [dP]
  omega
theorem fit_dP (n : Nat) (p : Nat × Nat) : fit (n + 1) (dP p) = true := by unfold dP; simp
theorem fit_dPs (n : Nat) (ps : List (Nat × Nat)) : fit (n + 2) (.lst (ps.map dP)) = true := by
  rw [fit_lst, List.all_eq_true]
  intro d hd
  obtain ⟨x, _, rfl⟩ := List.mem_map.mp hd
  exact fit_dP n x
theorem fIn_dP (p : Nat × Nat) (ps : List (Nat × Nat)) : fIn true (dP p) (.lst (ps.map dP)) = some (.bl (!decide (p ∈ ps))) := by
  have h1 : fInF true (dP p) (.lst (ps.map dP)) = none := by
    have hf : flatD (dP p) = false := rfl
    unfold fInF seqOf
    simp [hf]
  have h2 : ((ps.map dP).any fun y => eqD y (dP p)) = decide (p ∈ ps) := by
    rw [Bool.eq_iff_iff, List.any_eq_true]
    constructor
    · rintro ⟨d, hd, e⟩
      obtain ⟨y, hy, rfl⟩ := List.mem_map.mp hd
      rw [eqD_dP] at e
      have := of_decide_eq_true e
      subst this
      exact decide_eq_true hy
    · intro e
      exact ⟨dP p, List.mem_map.mpr ⟨p, of_decide_eq_true e, rfl⟩, by rw [eqD_dP]; simp⟩
  unfold fIn
  rw [h1]
  simp only []
  have h3 : fInD true (dP p) (.lst (ps.map dP)) = (if fit 8 (dP p) = true ∧ fit 8 (.lst (ps.map dP)) = true then some (.bl (if true = true then !(ps.map dP).any (fun y => eqD y (dP p)) else (ps.map dP).any fun y => eqD y (dP p))) else none) := rfl
  rw [h3, if_pos ⟨fit_dP 7 p, fit_dPs 6 ps⟩, h2]
  rfl
theorem flat_dO (o : Option Nat) : flatD (dO o) = true := by cases o <;> rfl
theorem fIn_non (a b : Option Nat) : fIn true .non (.tup [dO a, dO b]) = some (.bl (!(decide (a = none) || decide (b = none)))) := by
  have h1 : fInF true .non (.tup [dO a, dO b]) = some (.bl (!([dO a, dO b].any fun y => eqF y .non))) := by
    unfold fInF seqOf
    have : [dO a, dO b].all flatD = true := by simp [flat_dO]
    have h0 : flatD .non = true := rfl
    simp only [this, h0, and_self, if_true]
  unfold fIn
  rw [h1]
  cases a <;> cases b <;> simp [eqF]
theorem fIx_nm (x : An) (h : x ≠ none) : fIx (dA x) (.int 1) = some (dO (nm x)) := by
  cases x with
  | none => exact (h rfl).elim
  | some p =>
    obtain ⟨b, n⟩ := p
    simp [dA, nm]
theorem fNe_dO (a b : Nat) : fNe (dO (some a)) (dO (some b)) = some (.bl (!decide (a = b))) := by
  rw [dO_some, dO_some, fNe_int]
  congr 3
  by_cases h : a = b
  · subst h; simp
  · simp [h]; omega
/-! ### the program's steps -/
def stBody : SM := (sSeq (sSet 4 (eTup (aCons (eBin fIx (eV 1) (eBin fSub (eV 3) (eK (.int 1)))) (aCons (eBin fIx (eV 1) (eV 3)) aNil)))) (sIf (tAnd' (toB (eBin (fIn true) (eK .non) (eV 4))) (tAnd' (toB (eBin fNe (eBin fIx (eV 4) (eK (.int 0))) (eBin fIx (eV 4) (eK (.int 1))))) (tBor 2 (toB (eBin (fIn true) (eV 4) (eV 2)))))) (sMut "list" 2 fAppend (aCons (eV 4) aNil)) sNext))
theorem st_turn {ns : List (Option Nat)} {a b : Option Nat} {k : Nat} {rw : Rw} (hk : 1 ≤ k) (ha : ns[k - 1]? = some a) (hb : ns[k]? = some b) (x0 x4 x5 : Sl) (ps : List (Nat × Nat)) (hp : ps.length ≤ 1000) :
    ∃ x4', stBody [x0, .val (.lst (ns.map dO)), .own (.lst (ps.map dP)), .val (.int (k : Int)), x4, x5] rw = .ok (.next, [x0, .val (.lst (ns.map dO)), .own (.lst ((stepM ps a b).map dP)), .val (.int (k : Int)), x4', x5], rw) := by
  have i1 : L2.atI (ns.map dO) ((k : Int) - 1) = some (dO a) := by
    rw [show (k : Int) - 1 = ((k - 1 : Nat) : Int) by omega, atI_nat_eq, List.getElem?_map, ha]; rfl
  have i2 : L2.atI (ns.map dO) (k : Int) = some (dO b) := by rw [atI_nat_eq, List.getElem?_map, hb]; rfl
  have h2l : 2 ≤ sizeLine := sl_big (by decide)
  have hn := fIn_non a b
  have hl : (ps.map dP).length < sizeLine := sl_lt (by simp; omega)
  refine ⟨.val (.tup [dO a, dO b]), ?_⟩
  generalize ns.map dO = ND at *
  cases a with
  | none =>
    have hd : (!(decide ((none : Option Nat) = none) || decide (b = none))) = false := by simp
    rw [hd] at hn
    simp -implicitDefEqProofs only [stBody, sSeq_ap, sSet_ap, eTup_ap, aCons_ap, aNil_ap, eBin_ap, eV_ap, eK_ap, List.getElem?_cons_succ, List.getElem?_cons_zero, getV_val, bind_ok, fSub_int, ofO_some, fIx_lst, i1, i2, List.length_cons, List.length_nil, Nat.zero_add, Nat.reduceAdd, h2l, if_true, List.set_cons_succ, List.set_cons_zero, seqK_next, sIf_ap, tAnd_ap, toB_ap, hn, toBK_bl, Bool.false_eq_true, if_false, sNext_ap, stepM]
  | some x =>
    cases b with
    | none =>
      have hd : (!(decide ((some x : Option Nat) = none) || decide ((none : Option Nat) = none))) = false := by simp
      rw [hd] at hn
      simp -implicitDefEqProofs only [stBody, sSeq_ap, sSet_ap, eTup_ap, aCons_ap, aNil_ap, eBin_ap, eV_ap, eK_ap, List.getElem?_cons_succ, List.getElem?_cons_zero, getV_val, bind_ok, fSub_int, ofO_some, fIx_lst, i1, i2, List.length_cons, List.length_nil, Nat.zero_add, Nat.reduceAdd, h2l, if_true, List.set_cons_succ, List.set_cons_zero, seqK_next, sIf_ap, tAnd_ap, toB_ap, hn, toBK_bl, Bool.false_eq_true, if_false, sNext_ap, stepM]
    | some y =>
      have hd : (!(decide ((some x : Option Nat) = none) || decide ((some y : Option Nat) = none))) = true := by simp
      rw [hd] at hn
      have hne := fNe_dO x y
      have hin := fIn_dP (x, y) ps
      have edp : dP (x, y) = .tup [dO (some x), dO (some y)] := rfl
      rw [edp] at hin
      by_cases h : x = y
      · rw [decide_eq_true h] at hne
        have es : stepM ps (some x) (some y) = ps := if_pos h
        rw [es]
        generalize dO (some x) = X at *
        generalize dO (some y) = Y at *
        simp -implicitDefEqProofs only [stBody, sSeq_ap, sSet_ap, eTup_ap, aCons_ap, aNil_ap, eBin_ap, eV_ap, eK_ap, List.getElem?_cons_succ, List.getElem?_cons_zero, getV_val, bind_ok, fSub_int, ofO_some, fIx_lst, i1, i2, List.length_cons, List.length_nil, Nat.zero_add, Nat.reduceAdd, h2l, if_true, List.set_cons_succ, List.set_cons_zero, seqK_next, sIf_ap, tAnd_ap, toB_ap, hn, toBK_bl, fIx_tup, atI_zero, atI_one, hne, Bool.not_true, Bool.false_eq_true, if_false, sNext_ap]
      · rw [decide_eq_false h] at hne
        by_cases hm : (x, y) ∈ ps
        · rw [decide_eq_true hm] at hin
          have es : stepM ps (some x) (some y) = ps := by rw [stepM_some, if_neg h, if_pos hm]
          rw [es]
          generalize ps.map dP = PD at *
          generalize dO (some x) = X at *
          generalize dO (some y) = Y at *
          simp -implicitDefEqProofs only [stBody, sSeq_ap, sSet_ap, eTup_ap, aCons_ap, aNil_ap, eBin_ap, eV_ap, eK_ap, List.getElem?_cons_succ, List.getElem?_cons_zero, getV_val, bind_ok, fSub_int, ofO_some, fIx_lst, i1, i2, List.length_cons, List.length_nil, Nat.zero_add, Nat.reduceAdd, h2l, if_true, List.set_cons_succ, List.set_cons_zero, seqK_next, sIf_ap, tAnd_ap, toB_ap, hn, toBK_bl, fIx_tup, atI_zero, atI_one, hne, Bool.not_false, tBor_ap, hin, Bool.not_true, noX_ok, Bool.false_eq_true, if_false, sNext_ap]
        · rw [decide_eq_false hm] at hin
          have es : stepM ps (some x) (some y) = ps ++ [(x, y)] := by rw [stepM_some, if_neg h, if_neg hm]
          have em : (ps ++ [(x, y)]).map dP = ps.map dP ++ [.tup [dO (some x), dO (some y)]] := by rw [List.map_append]; rfl
          rw [es, em]
          generalize ps.map dP = PD at *
          generalize dO (some x) = X at *
          generalize dO (some y) = Y at *
          simp -implicitDefEqProofs only [stBody, sSeq_ap, sSet_ap, eTup_ap, aCons_ap, aNil_ap, eBin_ap, eV_ap, eK_ap, List.getElem?_cons_succ, List.getElem?_cons_zero, getV_val, bind_ok, fSub_int, ofO_some, fIx_lst, i1, i2, List.length_cons, List.length_nil, Nat.zero_add, Nat.reduceAdd, h2l, if_true, List.set_cons_succ, List.set_cons_zero, seqK_next, sIf_ap, tAnd_ap, toB_ap, hn, toBK_bl, fIx_tup, atI_zero, atI_one, hne, Bool.not_false, tBor_ap, hin, noX_ok, sMut_ap, tyD_lst, fAppend_lst, hl]
theorem st_loop {ns : List (Option Nat)} {rw : Rw} (x0 x5 : Sl) : ∀ (n k : Nat) (a : Option Nat) (x3 x4 : Sl) (ps : List (Nat × Nat)), 1 ≤ k → k + n = ns.length → ns[k - 1]? = some a → ps.length + n ≤ 1000 →
    ∃ x3' x4', sLoop (gN 3) stBody (dNs (List.range' k n)) [x0, .val (.lst (ns.map dO)), .own (.lst (ps.map dP)), x3, x4, x5] rw = .ok (.next, [x0, .val (.lst (ns.map dO)), .own (.lst ((stepsFrom a (ns.drop k) ps).map dP)), x3', x4', x5], rw)
  | 0, k, a, x3, x4, ps, h1, h2, h3, h4 => by
    have : ns.drop k = [] := List.drop_of_length_le (by omega)
    rw [this]
    exact ⟨x3, x4, rfl⟩
  | n + 1, k, a, x3, x4, ps, h1, h2, h3, h4 => by
    have hkl : k < ns.length := by omega
    have hb : ns[k]? = some ns[k] := List.getElem?_eq_getElem hkl
    obtain ⟨y4, e1⟩ := st_turn (rw := rw) h1 h3 hb x0 x4 x5 ps (by omega)
    have hl := stepM_len ps a ns[k]
    obtain ⟨z3, z4, e2⟩ := st_loop (ns := ns) (rw := rw) x0 x5 n (k + 1) ns[k] (.val (.int (k : Int))) y4 (stepM ps a ns[k]) (by omega) (by omega) (by rw [Nat.add_sub_cancel]; exact hb) (by omega)
    refine ⟨z3, z4, ?_⟩
    rw [List.range'_succ]
    have es : ∀ l, sLoop (gN 3) stBody (dNs (k :: List.range' (k + 1) n)) l rw = sLoop (gN 3) stBody (.int (k : Int) :: dNs (List.range' (k + 1) n)) l rw := fun _ => rfl
    rw [es]
    unfold sLoop
    simp only [gN_ap, List.set_cons_succ, List.set_cons_zero]
    rw [e1]
    simp only [bind_ok]
    rw [e2]
    have : ns.drop k = ns[k] :: ns.drop (k + 1) := List.drop_eq_getElem_cons hkl
    rw [this]
    rfl
def stepsM (as : List An) : List (Nat × Nat) := stepsFrom (some 0) (as.map nm) []
theorem steps_ok {as : List An} {rw : Rw} (h : as.length ≤ 90) : d_steps [.lst (as.map dA)] rw = .ok (.lst ((stepsM as).map dP), rw) := by
  have e1 := compL_mapM (tg := gN 5) (c := cYes) (e := eIf (toB (eBin fNe (eV 5) (eK (.tup [.str "nothing"])))) (eBin fIx (eV 5) (eK (.int 1))) (eK .non)) (lw := [.val (.lst (as.map dA)), .no, .no, .no, .no, .no]) (rw := rw) dA (fun x => dO (nm x)) as fun x _ => by
    refine ⟨[.val (.lst (as.map dA)), .no, .no, .no, .no, .val (dA x)], rfl, rfl, ?_⟩
    have hn := fNe_no x
    by_cases h0 : x = none
    · rw [decide_eq_true h0] at hn
      have en : dO (nm x) = .non := by rw [h0]; rfl
      rw [en]
      simp -implicitDefEqProofs only [eIf_ap, toB_ap, eBin_ap, eV_ap, eK_ap, List.getElem?_cons_succ, List.getElem?_cons_zero, getV_val, bind_ok, hn, ofO_some, toBK_bl, Bool.not_true, Bool.false_eq_true, if_false]
    · rw [decide_eq_false h0] at hn
      have hx := fIx_nm x h0
      simp -implicitDefEqProofs only [eIf_ap, toB_ap, eBin_ap, eV_ap, eK_ap, List.getElem?_cons_succ, List.getElem?_cons_zero, getV_val, bind_ok, hn, ofO_some, toBK_bl, Bool.not_false, if_true, hx]
  have hl : (as.map dA).length ≤ sizeLine := sl_big (by simp; omega)
  have hw : wipeD [.val (.lst (as.map dA)), .no, .no, .no, .no, .no] [5] = [.val (.lst (as.map dA)), .no, .no, .no, .no, .no] := rfl
  have ecat : fAdd (.lst [.int 0]) (.lst (as.map fun x => dO (nm x))) = some (.lst ((some 0 :: as.map nm).map dO)) := by
    rw [fAdd_lst _ _ (by simp; omega), List.map_cons, List.map_map]
    rfl
  obtain ⟨x3, x4, e2⟩ := st_loop (ns := some 0 :: as.map nm) (rw := rw) (.val (.lst (as.map dA))) .no as.length 1 (some 0) .no .no [] (by omega) (by simp; omega) rfl (by simp; omega)
  have edrop : (some 0 :: as.map nm).drop 1 = as.map nm := rfl
  rw [edrop] at e2
  have hlen : ((some 0 :: as.map nm).map dO).length = as.length + 1 := by simp
  have hr : rng2 [.int 1, .int (((some 0 :: as.map nm).map dO).length : Nat)] = some (dNs (List.range' 1 as.length)) := by
    have z := rng2_of' (i := 1) (j := (((some 0 :: as.map nm).map dO).length : Nat)) (a := 1) (b := as.length + 1) rfl (by rw [hlen]) (by decide) (by omega)
    rw [z, rangeD_dNs, Nat.add_sub_cancel]
  have h1l : 1 ≤ sizeLine := sl_big (by decide)
  have h0l : 0 ≤ sizeLine := Nat.zero_le _
  have eb : b_steps = sSeq (sSet 1 (eBin fAdd (eLst (aCons (eK (.int 0)) aNil)) (eComp (aItems (eV 0)) (gN 5) cYes (eIf (toB (eBin fNe (eV 5) (eK (.tup [.str "nothing"])))) (eBin fIx (eV 5) (eK (.int 1))) (eK .non)) [5]))) (sSeq (sSetO 2 (eLst aNil)) (sSeq (sFor (aRng rng2 (aCons (eK (.int 1)) (aCons (eArgs fLen (aCons (eV 1) aNil)) aNil))) (gN 3) stBody) (sRetV 2))) := rfl
  have em : ([] : List (Nat × Nat)).map dP = [] := rfl
  rw [em] at e2
  unfold d_steps stepsM
  rw [dDef1, eb]
  generalize as.map dA = DA at *
  generalize (some 0 :: as.map nm).map dO = ND at *
  simp -implicitDefEqProofs only [List.replicate, sSeq_ap, sSet_ap, eBin_ap, eLst_ap, aCons_ap, aNil_ap, eK_ap, eV_ap, List.getElem?_cons_succ, List.getElem?_cons_zero, getV_val, bind_ok, List.length_cons, List.length_nil, Nat.zero_add, h1l, if_true, ofO_some, eComp_ap, aItems_ap, itemsOf_lst, hl, hw, e1, ecat, List.set_cons_succ, List.set_cons_zero, seqK_next, sSetO_ap, h0l, sFor_ap, aRng_ap, eArgs_ap, fLen_lst, hr, e2, sRetV_ap, dFin_ret]
/-! ### the law's steps -/
def lsBody : SM := (sSeq (sSet 4 (eIf (toB (eBin fEq (eArgs fLen (aCons (eV 3) aNil)) (eK (.int 2)))) (eBin fIx (eV 3) (eK (.int 1))) (eK .non))) (sSeq (sIf (tAnd' (toB (eUn notNonD (eV 1))) (tAnd' (toB (eUn notNonD (eV 4))) (tAnd' (toB (eBin fNe (eV 1) (eV 4))) (tBor 2 (toB (eBin (fIn true) (eTup (aCons (eV 1) (aCons (eV 4) aNil))) (eV 2))))))) (sMut "list" 2 fAppend (aCons (eTup (aCons (eV 1) (aCons (eV 4) aNil))) aNil)) sNext) (sSet 1 (eV 4))))
theorem notNon_dO (o : Option Nat) : notNonD (dO o) = some (.bl (!decide (o = none))) := by cases o <;> simp
theorem fLen_dA (x : An) : ∃ n : Int, fLen [dA x] = some (.int n) ∧ decide (n = 2) = !decide (x = none) := by
  cases x with
  | none => exact ⟨1, rfl, by decide⟩
  | some p => obtain ⟨b, n⟩ := p; exact ⟨2, rfl, by simp⟩
theorem ls_turn {a : Option Nat} {x : An} {rw : Rw} (x0 x4 : Sl) (ps : List (Nat × Nat)) (hp : ps.length ≤ 1000) :
    lsBody [x0, .val (dO a), .own (.lst (ps.map dP)), .val (dA x), x4] rw = .ok (.next, [x0, .val (dO (nm x)), .own (.lst ((stepM ps a (nm x)).map dP)), .val (dA x), .val (dO (nm x))], rw) := by
  have h2l : 2 ≤ sizeLine := sl_big (by decide)
  have hl : (ps.map dP).length < sizeLine := sl_lt (by simp; omega)
  obtain ⟨n, hn1, hn2⟩ := fLen_dA x
  -- where it goes
  have e1 : (eIf (toB (eBin fEq (eArgs fLen (aCons (eV 3) aNil)) (eK (.int 2)))) (eBin fIx (eV 3) (eK (.int 1))) (eK .non)) [x0, .val (dO a), .own (.lst (ps.map dP)), .val (dA x), x4] rw = .ok (dO (nm x), rw) := by
    by_cases h0 : x = none
    · rw [decide_eq_true h0] at hn2
      have en : dO (nm x) = .non := by rw [h0]; rfl
      rw [en]
      simp -implicitDefEqProofs only [eIf_ap, toB_ap, eBin_ap, eArgs_ap, aCons_ap, aNil_ap, eV_ap, eK_ap, List.getElem?_cons_succ, List.getElem?_cons_zero, getV_val, bind_ok, hn1, ofO_some, fEq_int, hn2, toBK_bl, Bool.not_true, Bool.false_eq_true, if_false]
    · rw [decide_eq_false h0] at hn2
      have hx := fIx_nm x h0
      simp -implicitDefEqProofs only [eIf_ap, toB_ap, eBin_ap, eArgs_ap, aCons_ap, aNil_ap, eV_ap, eK_ap, List.getElem?_cons_succ, List.getElem?_cons_zero, getV_val, bind_ok, hn1, ofO_some, fEq_int, hn2, toBK_bl, Bool.not_false, if_true, hx]
  unfold lsBody
  rw [sSeq_ap, sSet_ap, e1]
  simp -implicitDefEqProofs only [bind_ok, List.set_cons_succ, List.set_cons_zero, seqK_next]
  generalize nm x = b
  have ha := notNon_dO a
  have hb := notNon_dO b
  cases a with
  | none =>
    have es : stepM ps none b = ps := rfl
    rw [es]
    have hd : (!decide ((none : Option Nat) = none)) = false := by simp
    rw [hd] at ha
    generalize ps.map dP = PD at *
    generalize dO (none : Option Nat) = X at *
    generalize dO b = Y at *
    simp -implicitDefEqProofs only [sSeq_ap, sIf_ap, tAnd_ap, toB_ap, eUn_ap, eV_ap, List.getElem?_cons_succ, List.getElem?_cons_zero, getV_val, bind_ok, ha, ofO_some, toBK_bl, Bool.false_eq_true, if_false, sNext_ap, seqK_next, sSet_ap, List.set_cons_succ, List.set_cons_zero]
  | some y =>
    have hd : (!decide ((some y : Option Nat) = none)) = true := by simp
    rw [hd] at ha
    cases b with
    | none =>
      have es : stepM ps (some y) none = ps := rfl
      rw [es]
      have hd : (!decide ((none : Option Nat) = none)) = false := by simp
      rw [hd] at hb
      generalize ps.map dP = PD at *
      generalize dO (none : Option Nat) = Y at *
      generalize dO (some y) = X at *
      simp -implicitDefEqProofs only [sSeq_ap, sIf_ap, tAnd_ap, toB_ap, eUn_ap, eV_ap, List.getElem?_cons_succ, List.getElem?_cons_zero, getV_val, bind_ok, ha, hb, ofO_some, toBK_bl, if_true, Bool.false_eq_true, if_false, sNext_ap, seqK_next, sSet_ap, List.set_cons_succ, List.set_cons_zero]
    | some z =>
      have hd : (!decide ((some z : Option Nat) = none)) = true := by simp
      rw [hd] at hb
      have hne := fNe_dO y z
      have hin := fIn_dP (y, z) ps
      have edp : dP (y, z) = .tup [dO (some y), dO (some z)] := rfl
      rw [edp] at hin
      by_cases h : y = z
      · rw [decide_eq_true h] at hne
        have es : stepM ps (some y) (some z) = ps := if_pos h
        rw [es]
        generalize ps.map dP = PD at *
        generalize dO (some y) = X at *
        generalize dO (some z) = Y at *
        simp -implicitDefEqProofs only [sSeq_ap, sIf_ap, tAnd_ap, toB_ap, eUn_ap, eBin_ap, eV_ap, List.getElem?_cons_succ, List.getElem?_cons_zero, getV_val, bind_ok, ha, hb, ofO_some, toBK_bl, if_true, hne, Bool.not_true, Bool.false_eq_true, if_false, sNext_ap, seqK_next, sSet_ap, List.set_cons_succ, List.set_cons_zero]
      · rw [decide_eq_false h] at hne
        by_cases hm : (y, z) ∈ ps
        · rw [decide_eq_true hm] at hin
          have es : stepM ps (some y) (some z) = ps := by rw [stepM_some, if_neg h, if_pos hm]
          rw [es]
          generalize ps.map dP = PD at *
          generalize dO (some y) = X at *
          generalize dO (some z) = Y at *
          simp -implicitDefEqProofs only [sSeq_ap, sIf_ap, tAnd_ap, toB_ap, eUn_ap, eBin_ap, eTup_ap, aCons_ap, aNil_ap, List.length_cons, List.length_nil, Nat.zero_add, Nat.reduceAdd, h2l, eV_ap, List.getElem?_cons_succ, List.getElem?_cons_zero, getV_val, bind_ok, ha, hb, ofO_some, toBK_bl, if_true, hne, Bool.not_false, tBor_ap, hin, Bool.not_true, noX_ok, Bool.false_eq_true, if_false, sNext_ap, seqK_next, sSet_ap, List.set_cons_succ, List.set_cons_zero]
        · rw [decide_eq_false hm] at hin
          have es : stepM ps (some y) (some z) = ps ++ [(y, z)] := by rw [stepM_some, if_neg h, if_neg hm]
          have em : (ps ++ [(y, z)]).map dP = ps.map dP ++ [.tup [dO (some y), dO (some z)]] := by rw [List.map_append]; rfl
          rw [es, em]
          generalize ps.map dP = PD at *
          generalize dO (some y) = X at *
          generalize dO (some z) = Y at *
          simp -implicitDefEqProofs only [sSeq_ap, sIf_ap, tAnd_ap, toB_ap, eUn_ap, eBin_ap, eTup_ap, aCons_ap, aNil_ap, List.length_cons, List.length_nil, Nat.zero_add, Nat.reduceAdd, h2l, eV_ap, List.getElem?_cons_succ, List.getElem?_cons_zero, getV_val, bind_ok, ha, hb, ofO_some, toBK_bl, if_true, hne, Bool.not_false, tBor_ap, hin, noX_ok, sMut_ap, tyD_lst, fAppend_lst, hl, seqK_next, sSet_ap, List.set_cons_succ, List.set_cons_zero]
theorem ls_loop {rw : Rw} (x0 : Sl) : ∀ (as : List An) (a : Option Nat) (x3 x4 : Sl) (ps : List (Nat × Nat)), ps.length + as.length ≤ 1000 →
    ∃ x1' x3' x4', sLoop (gN 3) lsBody (as.map dA) [x0, .val (dO a), .own (.lst (ps.map dP)), x3, x4] rw = .ok (.next, [x0, x1', .own (.lst ((stepsFrom a (as.map nm) ps).map dP)), x3', x4'], rw)
  | [], a, x3, x4, ps, _ => ⟨.val (dO a), x3, x4, rfl⟩
  | x :: as, a, x3, x4, ps, h => by
    simp at h
    have e1 := ls_turn (a := a) (x := x) (rw := rw) x0 x4 ps (by omega)
    have hl := stepM_len ps a (nm x)
    obtain ⟨y1, y3, y4, e2⟩ := ls_loop (rw := rw) x0 as (nm x) (.val (dA x)) (.val (dO (nm x))) (stepM ps a (nm x)) (by omega)
    refine ⟨y1, y3, y4, ?_⟩
    rw [List.map_cons]
    unfold sLoop
    simp only [gN_ap, List.set_cons_succ, List.set_cons_zero]
    rw [e1]
    exact e2
theorem law_steps_ok {as : List An} {rw : Rw} (h : as.length ≤ 90) : d__law_steps [.lst (as.map dA)] rw = .ok (.lst ((stepsM as).map dP), rw) := by
  obtain ⟨x1, x3, x4, e2⟩ := ls_loop (rw := rw) (.val (.lst (as.map dA))) as (some 0) .no .no [] (by simp; omega)
  have e0 : dO (some 0) = .int 0 := rfl
  have em : ([] : List (Nat × Nat)).map dP = [] := rfl
  rw [e0, em] at e2
  have h0l : 0 ≤ sizeLine := Nat.zero_le _
  have eb : b__law_steps = sSeq (sSet 1 (eK (.int 0))) (sSeq (sSetO 2 (eLst aNil)) (sSeq (sFor (aItems (eV 0)) (gN 3) lsBody) (sRetV 2))) := rfl
  unfold d__law_steps stepsM
  rw [dDef1, eb]
  generalize as.map dA = DA at *
  simp -implicitDefEqProofs only [List.replicate, sSeq_ap, sSet_ap, eK_ap, bind_ok, List.set_cons_succ, List.set_cons_zero, seqK_next, sSetO_ap, eLst_ap, aNil_ap, List.length_nil, h0l, if_true, ofO_some, sFor_ap, aItems_ap, eV_ap, List.getElem?_cons_succ, List.getElem?_cons_zero, getV_val, itemsOf_lst, e2, sRetV_ap, dFin_ret]
end HC
end
section
namespace HC
open PySem PySem.Spec L2 HD
def anM (silent : List Nat) (goal : Nat) : Option Nat → An
  | none => none
  | some p => if p ∈ silent then none else some (decide (p = goal), p)
theorem dA_anM (S : List Nat) (g : Nat) (o : Option Nat) : ansM S g o = dA (anM S g o) := by
  cases o with
  | none => rfl
  | some p =>
    unfold ansM anM
    simp only []
    by_cases h : p ∈ S
    · rw [if_pos h, if_pos h]; rfl
    · rw [if_neg h, if_neg h]
      by_cases e : p = g
      · rw [if_pos e, decide_eq_true e]; rfl
      · rw [if_neg e, decide_eq_false e]; rfl
theorem ansL_dA (S : List Nat) (w : List (Option Nat)) (g n : Nat) : ∃ as : List An, ansL S w g n = as.map dA ∧ as.length = n :=
  ⟨(List.range' 0 n).map fun h => anM S g (posM w g (h + 1)), by
    unfold ansL
    rw [List.map_map]
    exact List.map_congr_left fun h _ => dA_anM _ _ _, by simp⟩
theorem ans_of : ∀ (ys : List D), (∀ (i : Nat) (y : D), ys[i]? = some y → ∃ x : An, y = dA x) → ∃ as : List An, ys = as.map dA
  | [], _ => ⟨[], rfl⟩
  | y :: ys, h => by
    obtain ⟨x, h1⟩ := h 0 y rfl
    obtain ⟨as, h3⟩ := ans_of ys fun i z hz => h (i + 1) z (by simpa using hz)
    exact ⟨x :: as, by rw [h1, h3]; rfl⟩
def someL (many g : Nat) : List An := some (true, g) :: none :: (oth many g).map fun p => some (false, p)
theorem fNe_mt (as : List An) : fNe (.lst (as.map dA)) (.lst []) = some (.bl (!decide (as = []))) := by
  cases as with
  | nil => exact fNe_self (n := 8) (by decide) rfl
  | cons a as =>
    rw [List.map_cons]
    exact fNe_cn _ _ (fit_dAs 6 (a :: as))
def llBody : SM := (sSeq (sSet 6 (eCall d__law_taken (aCons (eV 0) (aCons (eArgs fLen (aCons (eV 3) aNil)) aNil)))) (sSet 3 (eBin fAdd (eBin fAdd (eSl (eV 3) pNone (pSome (eV 6))) (eBin fIx (eLst (aCons (eLst (aCons (eTup (aCons (eK (.str "nothing")) aNil)) aNil)) (aCons (eLst (aCons (eBin fIx (eV 4) (eCall d__law_taken (aCons (eV 0) (aCons (eArgs fLen (aCons (eV 4) aNil)) aNil)))) aNil)) aNil))) (eCall d__law_taken (aCons (eV 0) (aCons (eK (.int 2)) aNil))))) (eSl (eV 3) (pSome (eBin fAdd (eV 6) (eK (.int 1)))) pNone))))
theorem ll_turn {as ss : List An} {rw : Rw} (ha : as ≠ []) (hl : as.length ≤ 60) (hs : ss ≠ []) (hsl : ss.length ≤ 60) (hv : RV rw) (x1 x2 x5 x6 x7 x8 : Sl) :
    ∃ (as' : List An) (rw' : Rw) (x6' : Sl), llBody [.val .row, x1, x2, .val (.lst (as.map dA)), .val (.lst (ss.map dA)), x5, x6, x7, x8] rw = .ok (.next, [.val .row, x1, x2, .val (.lst (as'.map dA)), .val (.lst (ss.map dA)), x5, x6', x7, x8], rw') ∧ RV rw' ∧ as'.length = as.length := by
  have hal : 0 < as.length := List.length_pos_iff.mpr ha
  have hssl : 0 < ss.length := List.length_pos_iff.mpr hs
  obtain ⟨t, rw1, e1, r1, t0, t1⟩ := taken_ok hv (n := ((as.map dA).length : Nat)) (by rw [List.length_map]; omega)
  obtain ⟨k, rfl⟩ : ∃ k : Nat, t = (k : Int) := ⟨t.toNat, by omega⟩
  rw [List.length_map] at t1
  obtain ⟨t, rw2, e2, r2, u0, u1⟩ := taken_ok r1 (n := ((ss.map dA).length : Nat)) (by rw [List.length_map]; omega)
  obtain ⟨j, rfl⟩ : ∃ k : Nat, t = (k : Int) := ⟨t.toNat, by omega⟩
  rw [List.length_map] at u1
  obtain ⟨t, rw3, e3, r3, v0, v1⟩ := taken_ok r2 (n := 2) (by decide)
  have hx := atA_ix (as := ss) (i := j) (by omega)
  have h1l : 1 ≤ sizeLine := sl_big (by decide)
  have h2l : 2 ≤ sizeLine := sl_big (by decide)
  obtain ⟨x, ex⟩ : ∃ x : An, L2.atI [.lst [.tup [.str "nothing"]], .lst [dA (atA ss j)]] t = some (D.lst [dA x]) := by
    have : t = 0 ∨ t = 1 := by omega
    rcases this with rfl | rfl
    · exact ⟨none, atI_zero _ _⟩
    · exact ⟨atA ss j, atI_one _ _ _⟩
  have hc1 := cutD_len (as.map dA) none (some (k : Int))
  have hc2 := cutD_len (as.map dA) (some ((k : Int) + 1)) none
  rw [List.length_map] at hc1 hc2
  have a1 : fAdd (.lst (cutD (as.map dA) none (some (k : Int)))) (.lst [dA x]) = some (.lst (cutD (as.map dA) none (some (k : Int)) ++ [dA x])) := fAdd_lst _ _ (by simp; omega)
  have a2 : fAdd (.lst (cutD (as.map dA) none (some (k : Int)) ++ [dA x])) (.lst (cutD (as.map dA) (some ((k : Int) + 1)) none)) = some (.lst ((as.set k x).map dA)) := by
    rw [fAdd_lst _ _ (by simp; omega), splice dA as k x (by omega)]
  refine ⟨as.set k x, rw3, .val (.int (k : Int)), ?_, r3, by simp⟩
  generalize as.map dA = AD at *
  generalize ss.map dA = SD at *
  simp -implicitDefEqProofs only [llBody, sSeq_ap, sSet_ap, eCall_ap, aCons_ap, aNil_ap, eV_ap, eK_ap, eArgs_ap, List.getElem?_cons_succ, List.getElem?_cons_zero, getV_val, bind_ok, fLen_lst, ofO_some, e1, List.set_cons_succ, List.set_cons_zero, seqK_next, eBin_ap, eSl_ap, pNone_ap, pSome_ap, fSl_lst, eLst_ap, eTup_ap, List.length_cons, List.length_nil, Nat.zero_add, Nat.reduceAdd, h1l, h2l, if_true, e2, fIx_lst, hx, e3, ex, a1, fAdd_int, a2]
theorem ll_loop {ss : List An} (hs : ss ≠ []) (hsl : ss.length ≤ 60) (x1 x2 x7 x8 : Sl) : ∀ (ds : List D) (as : List An) (x5 x6 : Sl) (rw : Rw), (as = [] → ds = []) → as.length ≤ 60 → RV rw →
    ∃ (as' : List An) (x5' x6' : Sl) (rw' : Rw), sLoop (gN 5) llBody ds [.val .row, x1, x2, .val (.lst (as.map dA)), .val (.lst (ss.map dA)), x5, x6, x7, x8] rw = .ok (.next, [.val .row, x1, x2, .val (.lst (as'.map dA)), .val (.lst (ss.map dA)), x5', x6', x7, x8], rw') ∧ RV rw' ∧ as'.length ≤ 60
  | [], as, x5, x6, rw, _, hl, hv => ⟨as, x5, x6, rw, rfl, hv, hl⟩
  | d :: ds, as, x5, x6, rw, h0, hl, hv => by
    have ha : as ≠ [] := fun e => by cases h0 e
    obtain ⟨as', rw1, y6, e1, r1, l1⟩ := ll_turn ha hl hs hsl hv x1 x2 (.val d) x6 x7 x8
    obtain ⟨as2, y5, z6, rw2, e2, r2, l2⟩ := ll_loop hs hsl x1 x2 x7 x8 ds as' (.val d) y6 rw1 (fun e => by
      rw [e] at l1
      exact absurd (List.length_eq_zero_iff.mp l1.symm) ha) (by omega) r1
    refine ⟨as2, y5, z6, rw2, ?_, r2, l2⟩
    unfold sLoop
    simp only [gN_ap, List.set_cons_succ, List.set_cons_zero]
    rw [e1]
    exact e2
theorem law_list_ok {rw : Rw} (hv : RV rw) : ∃ (as : List An) (rw' : Rw), d__law_list [.row] rw = .ok (.lst (as.map dA), rw') ∧ RV rw' ∧ as.length ≤ 60 := by
  obtain ⟨W, rw1, e1, r1, hW, _, _⟩ := web_ok (a := 2) (b := 6) (by decide) (by decide) (by decide) hv
  have e1' : d__law_web [.row, .int 2, .int 6] rw = .ok (dWeb W, rw1) := e1
  have hlo := hW.lo
  have hhi := hW.hi
  obtain ⟨t, rw2, e2, r2, t0, t1⟩ := taken_ok r1 (n := (W.many : Int) - 1) (by omega)
  obtain ⟨g, hg⟩ : ∃ g : Nat, (1 : Int) + t = (g : Int) := ⟨((1 : Int) + t).toNat, by omega⟩
  obtain ⟨t', rw3, e3, r3, u0, u1⟩ := taken_ok r2 (n := 31) (by decide)
  obtain ⟨n, rfl⟩ : ∃ k : Nat, t' = (k : Int) := ⟨t'.toNat, by omega⟩
  obtain ⟨w, hw⟩ := hW.wayAt (goal := g) (by omega) (by omega)
  have e4 := law_answers_ok (rw := rw3) (n := n) hW hw (by omega)
  obtain ⟨as, eas, hal⟩ := ansL_dA W.silent w g n
  rw [eas] at e4
  -- some
  have hr : rng1 [.int (W.many : Int)] = some (dNs (List.range' 0 W.many)) := by
    rw [← rangeD_dNs]
    exact rng1_of' rfl (by omega)
  have hl : (dNs (List.range' 0 W.many)).length ≤ sizeLine := sl_big (by rw [dNs_len]; simp; omega)
  have h1l : 1 ≤ sizeLine := sl_big (by decide)
  have h2l : 2 ≤ sizeLine := sl_big (by decide)
  have h0l : 0 ≤ sizeLine := Nat.zero_le _
  have ec := compL_nf (tg := gN 7) (c := toB (eBin fNe (eV 7) (eV 2))) (e := eTup (aCons (eK (.str "gone")) (aCons (eV 7) aNil))) (lw := [.val .row, .val (dWeb W), .val (.int (g : Int)), .val (.lst (as.map dA)), .no, .no, .no, .no, .no]) (rw := rw3) (fun j => !decide (j = g)) (fun p => .tup [.str "gone", .int (p : Int)]) (List.range' 0 W.many) fun p _ => by
    refine ⟨[.val .row, .val (dWeb W), .val (.int (g : Int)), .val (.lst (as.map dA)), .no, .no, .no, .val (.int (p : Int)), .no], rfl, ?_, ?_⟩
    · have e : decide ((p : Int) = (g : Int)) = decide (p = g) := by
        by_cases z : p = g
        · subst z; simp
        · simp [z]; omega
      simp -implicitDefEqProofs only [toB_ap, eBin_ap, eV_ap, List.getElem?_cons_succ, List.getElem?_cons_zero, getV_val, bind_ok, ofO_some, fNe_int, toBK_bl, e]
    · simp -implicitDefEqProofs only [eTup_ap, aCons_ap, aNil_ap, eK_ap, eV_ap, List.getElem?_cons_succ, List.getElem?_cons_zero, getV_val, bind_ok, ofO_some, List.length_cons, List.length_nil, Nat.zero_add, Nat.reduceAdd, h2l, if_true]
  have hol := oth_len W.many g (by omega)
  have ecat : fAdd (.lst [.tup [.str "there", .int (g : Int)], .tup [.str "nothing"]]) (.lst (((List.range' 0 W.many).filter fun j => !decide (j = g)).map fun (p : Nat) => .tup [.str "gone", .int (p : Int)])) = some (.lst ((someL W.many g).map dA)) := by
    have hlen : ((List.range' 0 W.many).filter fun j => !decide (j = g)).length ≤ 6 := Nat.le_trans (List.length_filter_le _ _) (by simp; omega)
    rw [fAdd_lst _ _ (by rw [List.length_map]; simp only [List.length_cons, List.length_nil]; omega)]
    unfold someL oth
    rw [List.map_cons, List.map_cons, List.map_map]
    rfl
  have hsl : (someL W.many g).length = W.many + 1 := by
    unfold someL
    rw [List.length_cons, List.length_cons, List.length_map, hol]
    omega
  have hsn : someL W.many g ≠ [] := by unfold someL; simp
  have hw1 : wipeD [.val .row, .val (dWeb W), .val (.int (g : Int)), .val (.lst (as.map dA)), .no, .no, .no, .no, .no] [7] = [.val .row, .val (dWeb W), .val (.int (g : Int)), .val (.lst (as.map dA)), .no, .no, .no, .no, .no] := rfl
  obtain ⟨t4, rw4, e5, r4, v0, v1⟩ := taken_ok r3 (n := 4) (by decide)
  have i0 := ix0 W
  have eb : b__law_list = sSeq (sSet 1 (eCall d__law_web (aCons (eV 0) (aCons (eK (.int 2)) (aCons (eK (.int 6)) aNil))))) (sSeq (sSet 2 (eBin fAdd (eK (.int 1)) (eCall d__law_taken (aCons (eV 0) (aCons (eBin fSub (eBin fIx (eV 1) (eK (.int 0))) (eK (.int 1))) aNil))))) (sSeq (sSet 3 (eCall d__law_answers (aCons (eV 1) (aCons (eV 2) (aCons (eCall d__law_taken (aCons (eV 0) (aCons (eK (.int 31)) aNil))) aNil))))) (sSeq (sSet 4 (eBin fAdd (eLst (aCons (eTup (aCons (eK (.str "there")) (aCons (eV 2) aNil))) (aCons (eTup (aCons (eK (.str "nothing")) aNil)) aNil))) (eComp (aRng rng1 (aCons (eBin fIx (eV 1) (eK (.int 0))) aNil)) (gN 7) (toB (eBin fNe (eV 7) (eV 2))) (eTup (aCons (eK (.str "gone")) (aCons (eV 7) aNil))) [7]))) (sSeq (sIf (toB (eBin fEq (eCall d__law_taken (aCons (eV 0) (aCons (eK (.int 4)) aNil))) (eK (.int 3)))) (sRet (eComp (aItems (eV 3)) (gN 8) cYes (eBin fIx (eV 4) (eBin fAdd (eK (.int 1)) (eCall d__law_taken (aCons (eV 0) (aCons (eBin fSub (eArgs fLen (aCons (eV 4) aNil)) (eK (.int 1))) aNil))))) [8])) sNext) (sSeq (sFor (aRng rng1 (aCons (eBin fMul (eCall d__law_taken (aCons (eV 0) (aCons (eK (.int 3)) aNil))) (eArgs fIntB (aCons (eBin fNe (eV 3) (eLst aNil)) aNil))) aNil)) (gN 5) llBody) (sRet (eV 3))))))) := rfl
  unfold d__law_list
  rw [dDef1, eb]
  generalize hDW : dWeb W = DW at *
  by_cases h3 : t4 = 3
  · -- all otherwise
    obtain ⟨ys, rw5, e6, r5, l5, w5⟩ := compL_st (tg := gN 8) (c := cYes) (e := eBin fIx (eV 4) (eBin fAdd (eK (.int 1)) (eCall d__law_taken (aCons (eV 0) (aCons (eBin fSub (eArgs fLen (aCons (eV 4) aNil)) (eK (.int 1))) aNil))))) (lw := [.val .row, .val DW, .val (.int (g : Int)), .val (.lst (as.map dA)), .val (.lst ((someL W.many g).map dA)), .no, .no, .no, .no]) RV (fun _ y => ∃ x : An, y = dA x) (as.map dA) 0 _ r4 fun i d rw _ r => by
      obtain ⟨t, rw', e, r', q0, q1⟩ := taken_ok r (n := (((someL W.many g).map dA).length : Nat) - 1) (by rw [List.length_map, hsl]; omega)
      rw [List.length_map, hsl] at q1
      have hix := atA_ix (as := someL W.many g) (i := (1 + t).toNat) (by rw [hsl]; omega)
      have hj : (((1 + t).toNat : Nat) : Int) = 1 + t := by omega
      have hix2 : L2.atI ((someL W.many g).map dA) (1 + t) = some (dA (atA (someL W.many g) (1 + t).toNat)) := by
        rw [hj] at hix
        exact hix
      refine ⟨[.val .row, .val DW, .val (.int (g : Int)), .val (.lst (as.map dA)), .val (.lst ((someL W.many g).map dA)), .no, .no, .no, .val d], rfl, rw, dA (atA (someL W.many g) (1 + t).toNat), rw', rfl, ?_, r', _, rfl⟩
      simp -implicitDefEqProofs only [eBin_ap, eCall_ap, aCons_ap, aNil_ap, eArgs_ap, eV_ap, eK_ap, List.getElem?_cons_succ, List.getElem?_cons_zero, getV_val, bind_ok, fLen_lst, ofO_some, fSub_int, e, fAdd_int, fIx_lst, hix2]
    obtain ⟨bs, rfl⟩ := ans_of ys fun i y hy => w5 i y hy
    rw [List.length_map, List.length_map] at l5
    have hl8 : (as.map dA).length ≤ sizeLine := sl_big (by rw [List.length_map]; omega)
    have hw8 : wipeD [.val .row, .val DW, .val (.int (g : Int)), .val (.lst (as.map dA)), .val (.lst ((someL W.many g).map dA)), .no, .no, .no, .no] [8] = [.val .row, .val DW, .val (.int (g : Int)), .val (.lst (as.map dA)), .val (.lst ((someL W.many g).map dA)), .no, .no, .no, .no] := rfl
    have hd := decide_eq_true h3
    refine ⟨bs, rw5, ?_, r5, by omega⟩
    generalize as.map dA = AD at *
    generalize (someL W.many g).map dA = SD at *
    simp -implicitDefEqProofs only [List.replicate, sSeq_ap, sSet_ap, eCall_ap, aCons_ap, aNil_ap, eV_ap, eK_ap, List.getElem?_cons_succ, List.getElem?_cons_zero, getV_val, bind_ok, e1', List.set_cons_succ, List.set_cons_zero, seqK_next, eBin_ap, i0, ofO_some, fSub_int, e2, fAdd_int, hg, e3, e4, eLst_ap, eTup_ap, List.length_cons, List.length_nil, Nat.zero_add, Nat.reduceAdd, h1l, h2l, if_true, eComp_ap, aRng_ap, hr, hl, hw1, ec, ecat, sIf_ap, toB_ap, e5, fEq_int, hd, toBK_bl, sRet_ap, aItems_ap, itemsOf_lst, hl8, hw8, e6, seqK_ret, dFin_ret]
  · obtain ⟨t5, rw5, e6, r5, q0, q1⟩ := taken_ok r4 (n := 3) (by decide)
    have hne := fNe_mt as
    obtain ⟨m, hm, hm0, hmm⟩ : ∃ m : Nat, fMul (.int t5) (.int (if (!decide (as = [])) = true then 1 else 0)) = some (.int (m : Int)) ∧ (as = [] → m = 0) ∧ m ≤ 3 := by
      by_cases ha : as = []
      · refine ⟨0, ?_, fun _ => rfl, by omega⟩
        rw [decide_eq_true ha]
        have : ((if (!true) = true then 1 else 0 : Int)) = 0 := rfl
        rw [this, fMul_int, if_pos ⟨by decide, by decide⟩, Int.mul_zero]
        rfl
      · refine ⟨t5.toNat, ?_, fun e => (ha e).elim, by omega⟩
        rw [decide_eq_false ha]
        have : ((if (!false) = true then 1 else 0 : Int)) = 1 := rfl
        rw [this, fMul_int, if_pos ⟨by decide, by decide⟩, Int.mul_one, show ((t5.toNat : Nat) : Int) = t5 by omega]
    have hrm : rng1 [.int (m : Int)] = some (rangeD 0 m) := rng1_of' rfl (by omega)
    have hib : fIntB [.bl (!decide (as = []))] = some (.int (if (!decide (as = [])) = true then 1 else 0)) := rfl
    obtain ⟨bs, x5, x6, rw6, e7, r6, l6⟩ := ll_loop (ss := someL W.many g) hsn (by omega) (.val DW) (.val (.int (g : Int))) .no .no (rangeD 0 m) as .no .no rw5 (fun e => by rw [hm0 e]; rfl) (by omega) r5
    have hd := decide_eq_false h3
    refine ⟨bs, rw6, ?_, r6, l6⟩
    generalize as.map dA = AD at *
    generalize (someL W.many g).map dA = SD at *
    simp -implicitDefEqProofs only [List.replicate, sSeq_ap, sSet_ap, eCall_ap, aCons_ap, aNil_ap, eV_ap, eK_ap, List.getElem?_cons_succ, List.getElem?_cons_zero, getV_val, bind_ok, e1', List.set_cons_succ, List.set_cons_zero, seqK_next, eBin_ap, i0, ofO_some, fSub_int, e2, fAdd_int, hg, e3, e4, eLst_ap, eTup_ap, List.length_cons, List.length_nil, Nat.zero_add, Nat.reduceAdd, h1l, h2l, if_true, eComp_ap, aRng_ap, hr, hl, hw1, ec, ecat, sIf_ap, toB_ap, e5, fEq_int, hd, toBK_bl, Bool.false_eq_true, if_false, sNext_ap]
    rw [sFor_ap]
    simp -implicitDefEqProofs only [aRng_ap, aCons_ap, aNil_ap, eBin_ap, eCall_ap, eArgs_ap, eLst_ap, eV_ap, eK_ap, List.getElem?_cons_succ, List.getElem?_cons_zero, getV_val, bind_ok, e6, ofO_some, List.length_nil, h0l, if_true, hne, hib, hm, hrm, e7, seqK_next, sRet_ap, dFin_ret]
end HC
end
section
/-! Returns and the web: plain facts. -/
namespace HC
open PySem PySem.Spec L2 HD
/-- how a walk goes and ends -/
structure Trail (many goal : Nat) (w : List (Option Nat)) (P : List Nat) : Prop where
  ne : 0 < P.length
  nd : P.Nodup
  lt : ∀ p ∈ P, p < many ∧ p ≠ goal
  at_ : ∀ i, i < P.length → posM w goal i = P[i]?
theorem Trail.len {many goal : Nat} {w : List (Option Nat)} {P : List Nat} (h : Trail many goal w P) (hg : goal < many) : P.length + 1 ≤ many := by
  have h1 : (goal :: P).Nodup := List.nodup_cons.mpr ⟨fun z => (h.lt goal z).2 rfl, h.nd⟩
  have := nodup_lt_len (n := many) h1 fun p hp => by
    rcases List.mem_cons.mp hp with rfl | hp
    · exact hg
    · exact (h.lt p hp).1
  simpa using this
theorem walk_trail {many goal : Nat} {w : List (Option Nat)} (hw : WayOk many goal w) : ∀ (n : Nat) (Q : List Nat) (v : Nat) (d : D), WkInv many goal Q v → (∀ i, i < (Q ++ [v]).length → posM w goal i = (Q ++ [v])[i]?) → walkM w goal n Q v = some d →
    ∃ P, Trail many goal w P ∧ ((d = .tup [.tup (dNs P), .str "lost"] ∧ posM w goal P.length = none) ∨ (d = .tup [.tup (dNs (P ++ [goal])), .str "there"] ∧ posM w goal P.length = some goal) ∨ (∃ u, u ∈ P ∧ posM w goal P.length = some u ∧ d = .tup [.tup (dNs P), .int (fst_ u P : Nat)]))
  | 0, Q, v, d, h, hp, e => by cases e
  | n + 1, Q, v, d, h, hp, e => by
    have ht : Trail many goal w (Q ++ [v]) := ⟨by simp, h.nd, h.lt, hp⟩
    have hv := h.lt v (by simp)
    have hm : posM w goal Q.length = some v := by
      rw [hp Q.length (by simp)]
      simp
    have hlen : (Q ++ [v]).length = Q.length + 1 := by simp
    have hnx : posM w goal (Q.length + 1) = (w[v]?).getD none := by
      show hopM w goal (posM w goal Q.length) = _
      rw [hm]
      unfold hopM
      simp [hv.2]
    unfold walkM at e
    cases q : w[v]? with
    | none => rw [q] at e; cases e
    | some o =>
      rw [q] at e hnx
      cases o with
      | none =>
        cases e
        exact ⟨Q ++ [v], ht, .inl ⟨rfl, by rw [hlen, hnx]; rfl⟩⟩
      | some u =>
        simp only [] at e
        have hnu : posM w goal (Q.length + 1) = some u := hnx
        by_cases hg : u = goal
        · rw [if_pos hg] at e
          cases e
          exact ⟨Q ++ [v], ht, .inr (.inl ⟨rfl, by rw [hlen, hnu, hg]⟩)⟩
        · rw [if_neg hg] at e
          by_cases hin : u ∈ Q ++ [v]
          · rw [if_pos hin] at e
            cases e
            exact ⟨Q ++ [v], ht, .inr (.inr ⟨u, hin, by rw [hlen, hnu], rfl⟩)⟩
          · rw [if_neg hin] at e
            have h3 := hw.go v u q
            refine walk_trail hw n (Q ++ [v]) u d (h.next h3.1 hg hin) (fun i hi => ?_) e
            by_cases hi2 : i < (Q ++ [v]).length
            · rw [hp i hi2, List.getElem?_append_left hi2]
            · have : i = Q.length + 1 := by simp at hi hi2; omega
              subst this
              rw [hnu, List.getElem?_append_right (by simp)]
              simp
theorem walk_spec {many goal : Nat} {w : List (Option Nat)} (hw : WayOk many goal w) (h1 : 1 ≤ goal) (h2 : goal < many) {n : Nat} {d : D} (e : walkM w goal n [] 0 = some d) :
    ∃ P, Trail many goal w P ∧ ((d = .tup [.tup (dNs P), .str "lost"] ∧ posM w goal P.length = none) ∨ (d = .tup [.tup (dNs (P ++ [goal])), .str "there"] ∧ posM w goal P.length = some goal) ∨ (∃ u, u ∈ P ∧ posM w goal P.length = some u ∧ d = .tup [.tup (dNs P), .int (fst_ u P : Nat)])) :=
  walk_trail hw n [] 0 d ⟨fun p hp => by simp at hp; subst hp; omega, by simp⟩ (fun i hi => by
    have : i = 0 := by simp at hi; omega
    subst this
    rfl) e
/-- a trail's posts are told apart by their places -/
theorem Trail.inj {many goal : Nat} {w : List (Option Nat)} {P : List Nat} (h : Trail many goal w P) {a b : Nat} (ha : a < P.length) (hb : b < P.length) (e : posM w goal a = posM w goal b) : a = b := by
  rw [h.at_ a ha, h.at_ b hb] at e
  exact (List.getElem?_inj ha h.nd).mp e
theorem Trail.some_ {many goal : Nat} {w : List (Option Nat)} {P : List Nat} (h : Trail many goal w P) {a : Nat} (ha : a < P.length) : ∃ p, posM w goal a = some p ∧ P[a]? = some p ∧ p < many ∧ p ≠ goal := by
  have e := h.at_ a ha
  rw [List.getElem?_eq_getElem ha] at e
  exact ⟨P[a], e, List.getElem?_eq_getElem ha, h.lt _ (List.getElem_mem ha)⟩
/-- told -/
def toldA (S : List Nat) (w : List (Option Nat)) (g n : Nat) : List An := (List.range' 0 n).map fun h => anM S g (posM w g (h + 1))
theorem toldA_len {S : List Nat} {w : List (Option Nat)} {g n : Nat} : (toldA S w g n).length = n := by simp [toldA]
theorem toldA_dA (S : List Nat) (w : List (Option Nat)) (g n : Nat) : ansL S w g n = (toldA S w g n).map dA := by
  unfold ansL toldA
  rw [List.map_map]
  exact List.map_congr_left fun h _ => dA_anM _ _ _
theorem toldA_at {S : List Nat} {w : List (Option Nat)} {g n h : Nat} (hh : h < n) : atA (toldA S w g n) h = anM S g (posM w g (h + 1)) := by
  unfold atA toldA
  rw [List.getElem?_map, List.getElem?_range' hh]
  simp
theorem anM_there {S : List Nat} {g : Nat} {o : Option Nat} : isThere (anM S g o) = true ↔ o = some g ∧ g ∉ S := by
  cases o with
  | none => simp [anM, isThere]
  | some p =>
    unfold anM
    simp only []
    by_cases h : p ∈ S
    · rw [if_pos h]
      constructor
      · intro z; cases z
      · rintro ⟨e, h2⟩
        cases e
        exact (h2 h).elim
    · rw [if_neg h]
      by_cases e : p = g
      · subst e
        simp [isThere, h]
      · rw [decide_eq_false e]
        constructor
        · intro z; cases z
        · rintro ⟨z, _⟩
          cases z
          exact (e rfl).elim
theorem anM_some {S : List Nat} {g : Nat} {o : Option Nat} (h : anM S g o ≠ none) : ∃ p, o = some p ∧ p ∉ S := by
  cases o with
  | none => exact (h rfl).elim
  | some p =>
    refine ⟨p, rfl, fun hp => h ?_⟩
    unfold anM
    simp only []
    rw [if_pos hp]
theorem anM_of {S : List Nat} {g p : Nat} (h : p ∉ S) : anM S g (some p) = some (decide (p = g), p) := by
  unfold anM
  simp only []
  rw [if_neg h]
theorem anM_inj {S : List Nat} {g : Nat} {o o' : Option Nat} (h : anM S g o ≠ none) (e : anM S g o' = anM S g o) : o' = o := by
  obtain ⟨p, rfl, hp⟩ := anM_some h
  obtain ⟨p', rfl, hp'⟩ := anM_some (by rw [e]; exact h)
  rw [anM_of hp, anM_of hp'] at e
  simp at e
  rw [e.2]
theorem findSome_range {α : Type} {f : Nat → Option α} : ∀ (n a : Nat) (d : α), (List.range' a n).findSome? f = some d → ∃ k, a ≤ k ∧ k < a + n ∧ f k = some d ∧ ∀ j, a ≤ j → j < k → f j = none
  | 0, a, d, h => by cases h
  | n + 1, a, d, h => by
    rw [List.range'_succ, List.findSome?_cons] at h
    cases q : f a with
    | some z =>
      rw [q] at h
      cases h
      exact ⟨a, by omega, by omega, q, fun j h1 h2 => by omega⟩
    | none =>
      rw [q] at h
      obtain ⟨k, h1, h2, h3, h4⟩ := findSome_range n (a + 1) d h
      refine ⟨k, by omega, by omega, h3, fun j g1 g2 => ?_⟩
      by_cases e : j = a
      · rw [e]; exact q
      · exact h4 j (by omega) g2
theorem ringF_some {as : List An} {late : Nat} {d : D} (h : ringF as late = some d) : ∃ s, s < late ∧ atA as s = atA as late ∧ atA as late ≠ none ∧ d = .tup [.str "ring", .int ((s + 1 : Nat) : Int), .int ((late : Int) - (s : Int))] := by
  rw [ringF_find] at h
  cases q : (List.range' 0 late).find? fun s => decide (atA as s = atA as late) && !decide (atA as late = none) with
  | none => rw [q] at h; cases h
  | some s =>
    rw [q] at h
    have hp := List.find?_some q
    have hm := List.mem_range'_1.mp (List.mem_of_find?_eq_some q)
    simp at hp
    cases h
    exact ⟨s, by omega, hp.1, hp.2, rfl⟩
theorem ringF_ne {as : List An} {late s : Nat} (h1 : s < late) (h2 : atA as s = atA as late) (h3 : atA as late ≠ none) : ringF as late ≠ none := by
  rw [ringF_find]
  intro h
  rw [Option.map_eq_none_iff, List.find?_eq_none] at h
  have := h s (List.mem_range'_1.mpr (by omega))
  simp [h2, h3] at this
/-! ### what shows tells -/
theorem shows_there {S : List Nat} {w : List (Option Nat)} {g n k : Nat} (hk : k < n) (h1 : posM w g (k + 1) = some g) (h2 : g ∉ S) (h3 : ∀ j, j < k → posM w g (j + 1) ≠ some g) : showsM (toldA S w g n) = .tup [.str "there", .int ((k + 1 : Nat) : Int)] := by
  have hf : (List.range' 0 (toldA S w g n).length).findSome? (thereF (toldA S w g n)) = some (.tup [.str "there", .int ((k + 1 : Nat) : Int)]) := by
    rw [toldA_len]
    have hk2 : thereF (toldA S w g n) k = some (.tup [.str "there", .int ((k + 1 : Nat) : Int)]) := by
      unfold thereF
      rw [toldA_at hk, if_pos (anM_there.mpr ⟨h1, h2⟩)]
    cases q : (List.range' 0 n).findSome? (thereF (toldA S w g n)) with
    | none =>
      rw [List.findSome?_eq_none_iff] at q
      rw [q k (List.mem_range'_1.mpr (by omega))] at hk2
      cases hk2
    | some d =>
      obtain ⟨j, _, j2, j3, j4⟩ := findSome_range _ _ _ q
      by_cases e : j < k
      · unfold thereF at j3
        rw [toldA_at (by omega)] at j3
        split at j3
        · rename_i z
          exact (h3 j e (anM_there.mp z).1).elim
        · cases j3
      · by_cases e2 : k < j
        · have := j4 k (by omega) e2
          rw [this] at hk2
          cases hk2
        · have : j = k := by omega
          subst this
          rw [hk2] at j3
          cases j3
          rfl
  unfold showsM
  rw [hf]
  rfl
theorem shows_not {S : List Nat} {w : List (Option Nat)} {g n : Nat} (h : ∀ j, j < n → posM w g (j + 1) = some g → g ∈ S) : showsM (toldA S w g n) = (ringAll (toldA S w g n)).getD (.tup [.str "open", .int (maxI 0 (lastI (toldA S w g n)))]) := by
  have hf : (List.range' 0 (toldA S w g n).length).findSome? (thereF (toldA S w g n)) = none := by
    rw [toldA_len, List.findSome?_eq_none_iff]
    intro j hj
    have hj := List.mem_range'_1.mp hj
    unfold thereF
    rw [toldA_at (by omega)]
    by_cases z : isThere (anM S g (posM w g (j + 1))) = true
    · have := anM_there.mp z
      exact (this.2 (h j (by omega) this.1)).elim
    · rw [if_neg z]
  unfold showsM
  rw [hf]
  rfl
/-- no ring where nothing told comes twice -/
theorem no_ring {S : List Nat} {w : List (Option Nat)} {g n : Nat} (h : ∀ a b : Nat, a < b → b < n → ∀ p, posM w g (a + 1) = some p → posM w g (b + 1) = some p → p ∈ S) : ringAll (toldA S w g n) = none := by
  unfold ringAll
  rw [toldA_len, List.findSome?_eq_none_iff]
  intro late hl
  have hl := List.mem_range'_1.mp hl
  cases q : ringF (toldA S w g n) late with
  | none => rfl
  | some d =>
    obtain ⟨s, s1, s2, s3, _⟩ := ringF_some q
    rw [toldA_at (by omega)] at s2 s3
    rw [toldA_at (by omega)] at s2
    obtain ⟨p, e1, e2⟩ := anM_some s3
    have e3 := anM_inj s3 s2
    rw [e1] at e3
    exact (e2 (h s late s1 (by omega) p e3 e1)).elim
/-- round -/
theorem round_gap {many goal : Nat} {w : List (Option Nat)} {P : List Nat} (h : Trail many goal w P) {i : Nat} (hi : i < P.length) (hper : ∀ k, posM w goal (i + k + (P.length - i)) = posM w goal (i + k)) : ∀ (b a : Nat), a < b → posM w goal a = posM w goal b → i ≤ a ∧ a + (P.length - i) ≤ b := by
  intro b
  induction b using Nat.strongRecOn with
  | _ b ih =>
    intro a hab e
    by_cases hb : b < P.length
    · have := h.inj (by omega) hb e
      omega
    · have hp := hper (b - P.length)
      rw [show i + (b - P.length) + (P.length - i) = b by omega] at hp
      rcases Nat.lt_trichotomy a (i + (b - P.length)) with h1 | h1 | h1
      · have := ih (i + (b - P.length)) (by omega) a h1 (by rw [e, hp])
        omega
      · omega
      · have := ih a hab (i + (b - P.length)) h1 (by rw [← hp, e])
        omega
theorem round_per {many goal : Nat} {w : List (Option Nat)} {P : List Nat} (h : Trail many goal w P) {u : Nat} (hu : u ∈ P) (e : posM w goal P.length = some u) : ∀ k, posM w goal (fst_ u P + k + (P.length - fst_ u P)) = posM w goal (fst_ u P + k) := by
  obtain ⟨h1, h2, _⟩ := fst_lt hu
  have e0 : posM w goal P.length = posM w goal (fst_ u P) := by rw [e, h.at_ _ h1, h2]
  intro k
  have := posM_add e0 k
  rw [show P.length + k = fst_ u P + k + (P.length - fst_ u P) by omega] at this
  exact this
theorem round_goal {many goal : Nat} {w : List (Option Nat)} {P : List Nat} (h : Trail many goal w P) {i : Nat} (hi : i < P.length) (hper : ∀ k, posM w goal (i + k + (P.length - i)) = posM w goal (i + k)) : ∀ b, ∃ a, a < P.length ∧ posM w goal b = posM w goal a := by
  intro b
  induction b using Nat.strongRecOn with
  | _ b ih =>
    by_cases hb : b < P.length
    · exact ⟨b, hb, rfl⟩
    · have hp := hper (b - P.length)
      rw [show i + (b - P.length) + (P.length - i) = b by omega] at hp
      obtain ⟨a, h1, h2⟩ := ih (i + (b - P.length)) (by omega)
      exact ⟨a, h1, by rw [hp, h2]⟩
theorem ring_round {S : List Nat} {many goal n : Nat} {w : List (Option Nat)} {P : List Nat} (h : Trail many goal w P) {i : Nat} (hi : i < P.length) (hper : ∀ k, posM w goal (i + k + (P.length - i)) = posM w goal (i + k)) {d : D} (e : ringAll (toldA S w goal n) = some d) :
    ∃ a : Int, d = .tup [.str "ring", .int a, .int ((P.length - i : Nat) : Int)] := by
  unfold ringAll at e
  rw [toldA_len] at e
  obtain ⟨late, _, l2, l3, l4⟩ := findSome_range _ _ _ e
  obtain ⟨s, s1, s2, s3, rfl⟩ := ringF_some l3
  rw [toldA_at (by omega)] at s2 s3
  rw [toldA_at (by omega)] at s2
  have e3 := anM_inj s3 s2
  obtain ⟨g1, g2⟩ := round_gap h hi hper (late + 1) (s + 1) (by omega) e3
  have hq : posM w goal (s + (P.length - i) + 1) = posM w goal (s + 1) := by
    have := hper (s + 1 - i)
    rw [show i + (s + 1 - i) + (P.length - i) = s + (P.length - i) + 1 by omega, show i + (s + 1 - i) = s + 1 by omega] at this
    exact this
  have hle : late ≤ s + (P.length - i) := by
    by_cases z : s + (P.length - i) < late
    · have := l4 (s + (P.length - i)) (by omega) z
      exact (ringF_ne (s := s) (by omega) (by rw [toldA_at (by omega), toldA_at (by omega), hq]) (by rw [toldA_at (by omega), hq, e3]; exact s3) this).elim
    · omega
  have e9 : (late : Int) - (s : Int) = ((P.length - i : Nat) : Int) := by omega
  exact ⟨((s + 1 : Nat) : Int), by rw [e9]⟩
theorem ring_there {S : List Nat} {many goal n : Nat} {w : List (Option Nat)} {P : List Nat} (h : Trail many goal w P) {i : Nat} (hi : i < P.length) (hper : ∀ k, posM w goal (i + k + (P.length - i)) = posM w goal (i + k)) (hn : 2 * P.length ≤ n) (hs : ∀ j, i ≤ j → j < P.length → ∀ p, P[j]? = some p → p ∉ S) : ringAll (toldA S w goal n) ≠ none := by
  intro z
  unfold ringAll at z
  rw [toldA_len, List.findSome?_eq_none_iff] at z
  obtain ⟨a, a1, a2, a3, a4⟩ : ∃ a, 1 ≤ a ∧ i ≤ a ∧ a ≤ P.length ∧ ∃ p, posM w goal a = some p ∧ p ∉ S := by
    obtain ⟨p, p1, p2, _⟩ := h.some_ hi
    have hp := hs i (Nat.le_refl _) hi p p2
    by_cases h0 : i = 0
    · subst h0
      have := hper 0
      refine ⟨P.length, h.ne, by omega, Nat.le_refl _, p, ?_, hp⟩
      rw [show 0 + 0 + (P.length - 0) = P.length by omega] at this
      rw [this, p1]
    · exact ⟨i, by omega, Nat.le_refl _, by omega, p, p1, hp⟩
  obtain ⟨p, p1, p2⟩ := a4
  have hb : posM w goal (a + (P.length - i)) = some p := by
    have := hper (a - i)
    rw [show i + (a - i) + (P.length - i) = a + (P.length - i) by omega, show i + (a - i) = a by omega] at this
    rw [this, p1]
  have := z (a + (P.length - i) - 1) (List.mem_range'_1.mpr (by omega))
  refine ringF_ne (s := a - 1) (by omega) ?_ ?_ this
  · rw [toldA_at (by omega), toldA_at (by omega), show a - 1 + 1 = a by omega, show a + (P.length - i) - 1 + 1 = a + (P.length - i) by omega, hb, p1]
  · rw [toldA_at (by omega), show a + (P.length - i) - 1 + 1 = a + (P.length - i) by omega, hb, anM_of p2]
    simp
end HC
end
section
namespace HC
open PySem PySem.Spec L2 HD
theorem stepsFrom_mem {q : Nat × Nat} : ∀ (rest : List (Option Nat)) (prev : Option Nat) (ps : List (Nat × Nat)), q ∈ stepsFrom prev rest ps → q ∈ ps ∨ ∃ k a b, (prev :: rest)[k]? = some (some a) ∧ (prev :: rest)[k + 1]? = some (some b) ∧ a ≠ b ∧ q = (a, b)
  | [], _, _, h => .inl h
  | o :: rest, prev, ps, h => by
    rcases stepsFrom_mem rest o (stepM ps prev o) h with h | ⟨k, a, b, h1, h2, h3, h4⟩
    · cases prev with
      | none => exact .inl h
      | some x => cases o with
        | none => exact .inl h
        | some y =>
          rw [stepM_some] at h
          split at h
          · exact .inl h
          · rename_i hxy
            split at h
            · exact .inl h
            · rcases List.mem_append.mp h with h | h
              · exact .inl h
              · simp at h
                exact .inr ⟨0, x, y, rfl, rfl, hxy, h⟩
    · exact .inr ⟨k + 1, a, b, by simpa using h1, by simpa using h2, h3, h4⟩
theorem nm_anM {S : List Nat} {g a : Nat} {o : Option Nat} (h : nm (anM S g o) = some a) : o = some a := by
  have hne : anM S g o ≠ none := fun z => by rw [z] at h; cases h
  obtain ⟨p, rfl, hp⟩ := anM_some hne
  rw [anM_of hp] at h
  simp [nm] at h
  rw [h]
theorem steps_way {S : List Nat} {w : List (Option Nat)} {g n : Nat} {q : Nat × Nat} (h : q ∈ stepsM (toldA S w g n)) : w[q.1]? = some (some q.2) := by
  unfold stepsM at h
  rcases stepsFrom_mem _ _ _ h with h | ⟨k, a, b, h1, h2, h3, rfl⟩
  · cases h
  · have hat : ∀ (k a : Nat), (some 0 :: (toldA S w g n).map nm)[k]? = some (some a) → posM w g k = some a := by
      intro k a hk
      cases k with
      | zero =>
        simp at hk
        subst hk
        rfl
      | succ k =>
        rw [List.getElem?_cons_succ] at hk
        unfold toldA at hk
        rw [List.getElem?_map, List.getElem?_map] at hk
        by_cases hkn : k < n
        · rw [List.getElem?_range' hkn] at hk
          simp at hk
          exact nm_anM hk
        · rw [List.getElem?_eq_none (by simp; omega)] at hk
          cases hk
    have p1 := hat k a h1
    have p2 := hat (k + 1) b h2
    have p3 : hopM w g (posM w g k) = some b := p2
    rw [p1] at p3
    unfold hopM at p3
    simp only [] at p3
    split at p3
    · cases p3
      exact (h3 rfl).elim
    · show w[a]? = some (some b)
      cases e : w[a]? with
      | none => rw [e] at p3; cases p3
      | some o =>
        rw [e] at p3
        simp at p3
        rw [p3]
/-! ### the law's looks -/
theorem fEq_ss {x y : Str} (hx : PyData.strOk x = true) (hy : PyData.strOk y = true) : fEq (.str x) (.str y) = some (.bl (decide (x = y))) := by
  unfold fEq
  rw [if_pos ⟨by rw [fit_str]; exact hx, by rw [fit_str]; exact hy⟩, eqD_str]
theorem fNe_ss {x y : Str} (hx : PyData.strOk x = true) (hy : PyData.strOk y = true) : fNe (.str x) (.str y) = some (.bl (!decide (x = y))) := by
  unfold fNe
  rw [if_pos ⟨by rw [fit_str]; exact hx, by rw [fit_str]; exact hy⟩, eqD_str]
theorem fEq_is {i : Int} {y : Str} (hy : PyData.strOk y = true) : fEq (.int i) (.str y) = some (.bl false) := by
  unfold fEq
  rw [if_pos ⟨fit_int _ _, by rw [fit_str]; exact hy⟩, eqD_int_str]
def C1 : SM := (sIf (toB (eBin fNe (eBin fEq (eBin fIx (eV 8) (eK (.int 0))) (eK (.str "there"))) (vAnd (eBin fEq (eV 7) (eK (.str "there"))) (eBin (fIn true) (eV 4) (eBin fIx (eV 3) (eK (.int 1))))))) (sRet (eK (.bl false))) sNext)
def C2 : SM := (sIf (tAnd' (toB (eBin fEq (eBin fIx (eV 8) (eK (.int 0))) (eK (.str "there")))) (toB (eBin fNe (eBin fIx (eV 8) (eK (.int 1))) (eBin fSub (eArgs fLen (aCons (eV 6) aNil)) (eK (.int 1)))))) (sRet (eK (.bl false))) sNext)
def C3 : SM := (sIf (tAnd' (toB (eBin fEq (eBin fIx (eV 8) (eK (.int 0))) (eK (.str "ring")))) (tOr' (tNot' (toB (eV 9))) (toB (eBin fNe (eBin fIx (eV 8) (eK (.int 2))) (eArgs fLen (aCons (eV 10) aNil)))))) (sRet (eK (.bl false))) sNext)
def C4 : SM := (sIf (tAnd' (toB (eV 9)) (tAnd' (toB (eBin fEq (eComp (aItems (eV 10)) (gN 12) (toB (eBin (fIn false) (eV 12) (eBin fIx (eV 3) (eK (.int 1))))) (eV 12) [12]) (eLst aNil))) (toB (eBin fNe (eBin fIx (eV 8) (eK (.int 0))) (eK (.str "ring")))))) (sRet (eK (.bl false))) sNext)
def C5 : SM := (sIf (toB (eBin fNe (eComp (aItems (eCall d_steps (aCons (eV 5) aNil))) (gN 11) (toB (eBin fNe (eBin fIx (eBin fIx (eBin fIx (eV 3) (eK (.int 2))) (eBin fSub (eV 4) (eK (.int 1)))) (eBin fIx (eV 11) (eK (.int 0)))) (eBin fIx (eV 11) (eK (.int 1))))) (eV 11) [11]) (eLst aNil))) (sRet (eK (.bl false))) sNext)
def C6 : SM := (sIf (toB (eBin fNe (eCall d_asked (aCons (eV 3) (aCons (eV 4) (aCons (eK (.int 60)) aNil)))) (eCall d__law_asked (aCons (eV 3) (aCons (eV 4) (aCons (eK (.int 60)) aNil)))))) (sRet (eK (.bl false))) sNext)
section
variable {x0 x1 x2 x9 x10 x11 x12 : Sl} {DW told posts en what SD z0 : D} {g : Int} {rw : Rw}
theorem C1_ok {bT bE bV : Bool} (h0 : fIx what (.int 0) = some z0) (hT : fEq z0 (.str "there") = some (.bl bT)) (hE : fEq en (.str "there") = some (.bl bE)) (i1 : fIx DW (.int 1) = some SD) (hV : fIn true (.int g) SD = some (.bl bV)) (e : bT = (bE && bV)) :
    C1 [x0, x1, x2, .val DW, .val (.int g), .val told, .val posts, .val en, .val what, x9, x10, x11, x12] rw = .ok (.next, [x0, x1, x2, .val DW, .val (.int g), .val told, .val posts, .val en, .val what, x9, x10, x11, x12], rw) := by
  subst e
  cases bE with
  | false =>
    have hn : fNe (.bl (false && bV)) (.bl false) = some (.bl false) := by rw [Bool.false_and]; simp
    simp -implicitDefEqProofs only [C1, sIf_ap, toB_ap, eBin_ap, eV_ap, eK_ap, vAnd_ap, List.getElem?_cons_succ, List.getElem?_cons_zero, getV_val, bind_ok, h0, ofO_some, hT, hE, hn, toBK_bl, Bool.false_eq_true, if_false, sNext_ap]
  | true =>
    have hn : fNe (.bl (true && bV)) (.bl bV) = some (.bl false) := by rw [Bool.true_and]; simp
    simp -implicitDefEqProofs only [C1, sIf_ap, toB_ap, eBin_ap, eV_ap, eK_ap, vAnd_ap, List.getElem?_cons_succ, List.getElem?_cons_zero, getV_val, bind_ok, h0, ofO_some, hT, hE, i1, hV, hn, toBK_bl, Bool.false_eq_true, if_false, sNext_ap]
theorem C2_ok {bT : Bool} {ps : List D} {y : D} (h0 : fIx what (.int 0) = some z0) (hT : fEq z0 (.str "there") = some (.bl bT)) (h1 : bT = true → fIx what (.int 1) = some y ∧ fNe y (.int ((ps.length : Nat) - 1)) = some (.bl false)) :
    C2 [x0, x1, x2, .val DW, .val (.int g), .val told, .val (.tup ps), .val en, .val what, x9, x10, x11, x12] rw = .ok (.next, [x0, x1, x2, .val DW, .val (.int g), .val told, .val (.tup ps), .val en, .val what, x9, x10, x11, x12], rw) := by
  cases bT with
  | false => simp -implicitDefEqProofs only [C2, sIf_ap, tAnd_ap, toB_ap, eBin_ap, eV_ap, eK_ap, List.getElem?_cons_succ, List.getElem?_cons_zero, getV_val, bind_ok, h0, ofO_some, hT, toBK_bl, Bool.false_eq_true, if_false, sNext_ap]
  | true =>
    obtain ⟨h1, h2⟩ := h1 rfl
    simp -implicitDefEqProofs only [C2, sIf_ap, tAnd_ap, toB_ap, eBin_ap, eArgs_ap, aCons_ap, aNil_ap, eV_ap, eK_ap, List.getElem?_cons_succ, List.getElem?_cons_zero, getV_val, bind_ok, h0, ofO_some, hT, toBK_bl, if_true, h1, fLen_tup, fSub_int, h2, Bool.false_eq_true, if_false, sNext_ap]
theorem C3_ok {bG bR : Bool} {ar : List D} {y : D} (h0 : fIx what (.int 0) = some z0) (hG : fEq z0 (.str "ring") = some (.bl bG)) (h1 : bG = true → bR = true ∧ fIx what (.int 2) = some y ∧ fNe y (.int (ar.length : Nat)) = some (.bl false)) :
    C3 [x0, x1, x2, .val DW, .val (.int g), .val told, .val posts, .val en, .val what, .val (.bl bR), .val (.tup ar), x11, x12] rw = .ok (.next, [x0, x1, x2, .val DW, .val (.int g), .val told, .val posts, .val en, .val what, .val (.bl bR), .val (.tup ar), x11, x12], rw) := by
  cases bG with
  | false => simp -implicitDefEqProofs only [C3, sIf_ap, tAnd_ap, toB_ap, eBin_ap, eV_ap, eK_ap, List.getElem?_cons_succ, List.getElem?_cons_zero, getV_val, bind_ok, h0, ofO_some, hG, toBK_bl, Bool.false_eq_true, if_false, sNext_ap]
  | true =>
    obtain ⟨rfl, h1, h2⟩ := h1 rfl
    simp -implicitDefEqProofs only [C3, sIf_ap, tAnd_ap, tOr_ap, tNot_ap, toB_ap, eBin_ap, eArgs_ap, aCons_ap, aNil_ap, eV_ap, eK_ap, List.getElem?_cons_succ, List.getElem?_cons_zero, getV_val, bind_ok, h0, ofO_some, hG, toBK_bl, if_true, Bool.not_true, Bool.false_eq_true, if_false, h1, fLen_tup, h2, sNext_ap]
theorem C4_ok {bG bR : Bool} {A S : List Nat} (hA : A.length ≤ 100) (h0 : fIx what (.int 0) = some z0) (hG : fNe z0 (.str "ring") = some (.bl (!bG))) (i1 : fIx DW (.int 1) = some (.tup (dNs S))) (h1 : bR = true → (∀ p ∈ A, p ∉ S) → bG = true) :
    C4 [x0, x1, x2, .val DW, .val (.int g), .val told, .val posts, .val en, .val what, .val (.bl bR), .val (.tup (dNs A)), x11, .no] rw = .ok (.next, [x0, x1, x2, .val DW, .val (.int g), .val told, .val posts, .val en, .val what, .val (.bl bR), .val (.tup (dNs A)), x11, .no], rw) := by
  cases bR with
  | false => simp -implicitDefEqProofs only [C4, sIf_ap, tAnd_ap, toB_ap, eV_ap, List.getElem?_cons_succ, List.getElem?_cons_zero, getV_val, bind_ok, toBK_bl, Bool.false_eq_true, if_false, sNext_ap]
  | true =>
    have ec := compL_nat (tg := gN 12) (c := toB (eBin (fIn false) (eV 12) (eBin fIx (eV 3) (eK (.int 1))))) (e := eV 12) (lw := [x0, x1, x2, .val DW, .val (.int g), .val told, .val posts, .val en, .val what, .val (.bl true), .val (.tup (dNs A)), x11, .no]) (rw := rw) (fun p => decide (p ∈ S)) A fun p _ => ⟨[x0, x1, x2, .val DW, .val (.int g), .val told, .val posts, .val en, .val what, .val (.bl true), .val (.tup (dNs A)), x11, .val (.int (p : Int))], rfl, by
      simp -implicitDefEqProofs only [toB_ap, eBin_ap, eV_ap, eK_ap, List.getElem?_cons_succ, List.getElem?_cons_zero, getV_val, bind_ok, i1, ofO_some, fIn_dNsT, Bool.false_eq_true, if_false, toBK_bl], rfl⟩
    have hw : wipeD [x0, x1, x2, .val DW, .val (.int g), .val told, .val posts, .val en, .val what, .val (.bl true), .val (.tup (dNs A)), x11, .no] [12] = [x0, x1, x2, .val DW, .val (.int g), .val told, .val posts, .val en, .val what, .val (.bl true), .val (.tup (dNs A)), x11, .no] := rfl
    have hl : (dNs A).length ≤ sizeLine := sl_big (by rw [dNs_len]; omega)
    have h0l : 0 ≤ sizeLine := Nat.zero_le _
    cases hF : A.filter fun p => decide (p ∈ S) with
    | nil =>
      have hb : bG = true := h1 rfl fun p hp hs => by
        have := List.filter_eq_nil_iff.mp hF p hp
        simp [hs] at this
      subst hb
      rw [hF] at ec
      have ee : fEq (.lst (dNs [])) (.lst []) = some (.bl true) := fEq_self (n := 8) (by decide) rfl
      simp -implicitDefEqProofs only [C4, sIf_ap, tAnd_ap, toB_ap, eBin_ap, eV_ap, eK_ap, eComp_ap, aItems_ap, eLst_ap, aNil_ap, List.length_nil, h0l, List.getElem?_cons_succ, List.getElem?_cons_zero, getV_val, bind_ok, toBK_bl, if_true, itemsOf_tup, ofO_some, hl, hw, ec, ee, h0, hG, Bool.not_true, Bool.false_eq_true, if_false, sNext_ap]
    | cons f fs =>
      rw [hF] at ec
      have ee : fEq (.lst (dNs (f :: fs))) (.lst []) = some (.bl false) := fEq_cn _ _ (by
        rw [fit_lst]
        exact fit_dNs 7 (f :: fs))
      simp -implicitDefEqProofs only [C4, sIf_ap, tAnd_ap, toB_ap, eBin_ap, eV_ap, eK_ap, eComp_ap, aItems_ap, eLst_ap, aNil_ap, List.length_nil, h0l, List.getElem?_cons_succ, List.getElem?_cons_zero, getV_val, bind_ok, toBK_bl, if_true, itemsOf_tup, ofO_some, hl, hw, ec, ee, Bool.false_eq_true, if_false, sNext_ap]
theorem C5_ok {ps : List (Nat × Nat)} {w : List (Option Nat)} {WD : List D} (hs : d_steps [told] rw = .ok (.lst (ps.map dP), rw)) (hp : ps.length ≤ 100) (i2 : fIx DW (.int 2) = some (.tup WD)) (ig : L2.atI WD (g - 1) = some (dWay w)) (hw : ∀ q ∈ ps, w[q.1]? = some (some q.2)) :
    C5 [x0, x1, x2, .val DW, .val (.int g), .val told, .val posts, .val en, .val what, x9, x10, .no, x12] rw = .ok (.next, [x0, x1, x2, .val DW, .val (.int g), .val told, .val posts, .val en, .val what, x9, x10, .no, x12], rw) := by
  have ec : compL (gN 11) (toB (eBin fNe (eBin fIx (eBin fIx (eBin fIx (eV 3) (eK (.int 2))) (eBin fSub (eV 4) (eK (.int 1)))) (eBin fIx (eV 11) (eK (.int 0)))) (eBin fIx (eV 11) (eK (.int 1))))) (eV 11) [x0, x1, x2, .val DW, .val (.int g), .val told, .val posts, .val en, .val what, x9, x10, .no, x12] (ps.map dP) rw = .ok ([], rw) := by
    rw [compL_pure (fun _ => false) id (ps.map dP) fun d hd => ?_]
    · simp
    · obtain ⟨q, hq, rfl⟩ := List.mem_map.mp hd
      obtain ⟨a, b⟩ := q
      have hx : L2.atI (w.map dO) (a : Int) = some (.int (b : Int)) := by rw [atI_nat_eq, List.getElem?_map, hw (a, b) hq]; rfl
      have ew : dWay w = .tup (w.map dO) := rfl
      have ed : dP (a, b) = .tup [.int (a : Int), .int (b : Int)] := rfl
      have hn : fNe (.int (b : Int)) (.int (b : Int)) = some (.bl false) := by simp
      refine ⟨[x0, x1, x2, .val DW, .val (.int g), .val told, .val posts, .val en, .val what, x9, x10, .val (dP (a, b)), x12], rfl, ?_, fun z => by cases z⟩
      rw [ed]
      simp -implicitDefEqProofs only [toB_ap, eBin_ap, eV_ap, eK_ap, List.getElem?_cons_succ, List.getElem?_cons_zero, getV_val, bind_ok, i2, ofO_some, fSub_int, fIx_tup, ig, ew, atI_zero, hx, atI_one, hn, toBK_bl]
  have hw2 : wipeD [x0, x1, x2, .val DW, .val (.int g), .val told, .val posts, .val en, .val what, x9, x10, .no, x12] [11] = [x0, x1, x2, .val DW, .val (.int g), .val told, .val posts, .val en, .val what, x9, x10, .no, x12] := rfl
  have hl : (ps.map dP).length ≤ sizeLine := sl_big (by rw [List.length_map]; omega)
  have h0l : 0 ≤ sizeLine := Nat.zero_le _
  have hn : fNe (.lst []) (.lst []) = some (.bl false) := fNe_self (n := 8) (by decide) rfl
  generalize ps.map dP = PD at *
  simp -implicitDefEqProofs only [C5, sIf_ap, toB_ap, eBin_ap, eComp_ap, aItems_ap, eCall_ap, aCons_ap, aNil_ap, eLst_ap, eV_ap, List.length_nil, h0l, List.getElem?_cons_succ, List.getElem?_cons_zero, getV_val, bind_ok, hs, itemsOf_lst, ofO_some, hl, if_true, hw2, ec, hn, toBK_bl, Bool.false_eq_true, if_false, sNext_ap]
theorem C6_ok {d : D} (h1 : d_asked [DW, .int g, .int 60] rw = .ok (d, rw)) (h2 : d__law_asked [DW, .int g, .int 60] rw = .ok (d, rw)) (hd : fNe d d = some (.bl false)) :
    C6 [x0, x1, x2, .val DW, .val (.int g), .val told, .val posts, .val en, .val what, x9, x10, x11, x12] rw = .ok (.next, [x0, x1, x2, .val DW, .val (.int g), .val told, .val posts, .val en, .val what, x9, x10, x11, x12], rw) := by
  simp -implicitDefEqProofs only [C6, sIf_ap, toB_ap, eBin_ap, eCall_ap, aCons_ap, aNil_ap, eV_ap, eK_ap, List.getElem?_cons_succ, List.getElem?_cons_zero, getV_val, bind_ok, h1, h2, ofO_some, hd, toBK_bl, Bool.false_eq_true, if_false, sNext_ap]
end
end HC
end
section
namespace K05
open PySem PySem.Spec L2 HD HC
def S10 : SM := sSet 10 (eIf (toB (eV 9)) (eSl (eV 6) (pSome (eV 7)) pNone) (eTup aNil))
def inner : SM := (sSeq (sSet 5 (eCall d_answers (aCons (eV 3) (aCons (eV 4) aNil)))) (sSeq (sAsg (eCall d_walk (aCons (eV 3) (aCons (eV 4) aNil))) (gT 2 (gsCons (gN 6) (gsCons (gN 7) gsNil)))) (sSeq (sSet 8 (eCall d_shows (aCons (eV 5) aNil))) (sSeq C1 (sSeq C2 (sSeq (sSet 9 (eArgs fIsi (aCons (eV 7) (aCons (eK (.raw (.ty "int"))) aNil)))) (sSeq S10 (sSeq C3 (sSeq C4 (sSeq C5 C6))))))))))
theorem concl {W : Web} {g : Nat} {w : List (Option Nat)} {rw : Rw} (h : WebOk W) (hw : WayAt W g w) {PS A : List Nat} {en what z0 y1 y2 : D} {bT bE bV bR bG : Bool} {i : Int}
    (hwalk : d_walk [dWeb W, .int (g : Int)] rw = .ok (.tup [.tup (dNs PS), en], rw)) (hwhat : showsM (toldA W.silent w g (2 * W.many)) = what)
    (h0 : fIx what (.int 0) = some z0) (hT : fEq z0 (.str "there") = some (.bl bT)) (hE : fEq en (.str "there") = some (.bl bE)) (hV : fIn true (.int (g : Int)) (.tup (dNs W.silent)) = some (.bl bV)) (k1 : bT = (bE && bV))
    (k2 : bT = true → fIx what (.int 1) = some y1 ∧ fNe y1 (.int (((dNs PS).length : Nat) - 1)) = some (.bl false))
    (hI : fIsi [en, .raw (.ty "int")] = some (.bl bR)) (hA : bR = true → en = .int i ∧ fSl (.tup (dNs PS)) (some i) none = some (.tup (dNs A))) (hA0 : bR = false → A = []) (hAl : A.length ≤ 100)
    (hG : fEq z0 (.str "ring") = some (.bl bG)) (hG2 : fNe z0 (.str "ring") = some (.bl (!bG))) (k3 : bG = true → bR = true ∧ fIx what (.int 2) = some y2 ∧ fNe y2 (.int ((dNs A).length : Nat)) = some (.bl false))
    (k4 : bR = true → (∀ p ∈ A, p ∉ W.silent) → bG = true) (x0 x1 x2 x5 x6 x7 x8 x9 x10 : Sl) :
    ∃ y5 y6 y7 y8 y9 y10, inner [x0, x1, x2, .val (dWeb W), .val (.int (g : Int)), x5, x6, x7, x8, x9, x10, .no, .no] rw = .ok (.next, [x0, x1, x2, .val (dWeb W), .val (.int (g : Int)), y5, y6, y7, y8, y9, y10, .no, .no], rw) := by
  have hhi := h.hi
  have ea := answers_ok (rw := rw) h hw
  rw [toldA_dA] at ea
  have es := shows_ok (rw := rw) (as := toldA W.silent w g (2 * W.many)) (by rw [toldA_len]; omega)
  rw [hwhat] at es
  have est := steps_ok (rw := rw) (as := toldA W.silent w g (2 * W.many)) (by rw [toldA_len]; omega)
  have hsl : (stepsM (toldA W.silent w g (2 * W.many))).length ≤ 100 := by
    have := stepsFrom_len ((toldA W.silent w g (2 * W.many)).map nm) (some 0) []
    rw [List.length_map, toldA_len] at this
    simp at this
    unfold stepsM
    omega
  have eq1 := asked_ok (rw := rw) (n := 60) h hw (by decide) (by decide)
  have eq2 := law_asked_ok (rw := rw) (n := 60) h hw (by decide)
  have i1 := ix1 W
  have i2 := ix2 W
  have ig := hw.ix
  have hst : ∀ q ∈ stepsM (toldA W.silent w g (2 * W.many)), w[q.1]? = some (some q.2) := fun q hq => steps_way hq
  generalize (toldA W.silent w g (2 * W.many)) = as at *
  have hg : ∀ l : Dl, gT 2 (gsCons (gN 6) (gsCons (gN 7) gsNil)) (.tup [.tup (dNs PS), en]) l = some ((l.set 6 (.val (.tup (dNs PS)))).set 7 (.val en)) := fun l => rfl
  have a1 := C1_ok (x0 := x0) (x1 := x1) (x2 := x2) (x9 := x9) (x10 := x10) (x11 := .no) (x12 := .no) (DW := dWeb W) (told := .lst (as.map dA)) (posts := .tup (dNs PS)) (g := (g : Int)) (rw := rw) h0 hT hE i1 hV k1
  have a2 := C2_ok (x0 := x0) (x1 := x1) (x2 := x2) (x9 := x9) (x10 := x10) (x11 := .no) (x12 := .no) (DW := dWeb W) (told := .lst (as.map dA)) (en := en) (g := (g : Int)) (rw := rw) (ps := dNs PS) h0 hT k2
  have a3 := C3_ok (x0 := x0) (x1 := x1) (x2 := x2) (x11 := .no) (x12 := .no) (DW := dWeb W) (told := .lst (as.map dA)) (posts := .tup (dNs PS)) (en := en) (g := (g : Int)) (rw := rw) (ar := dNs A) h0 hG k3
  have a4 := C4_ok (x0 := x0) (x1 := x1) (x2 := x2) (x11 := .no) (DW := dWeb W) (told := .lst (as.map dA)) (posts := .tup (dNs PS)) (en := en) (g := (g : Int)) (rw := rw) hAl h0 hG2 i1 k4
  have a5 := C5_ok (x0 := x0) (x1 := x1) (x2 := x2) (x9 := .val (.bl bR)) (x10 := .val (.tup (dNs A))) (x12 := .no) (DW := dWeb W) (posts := .tup (dNs PS)) (en := en) (what := what) (g := (g : Int)) est hsl i2 ig hst
  have a6 := C6_ok (x0 := x0) (x1 := x1) (x2 := x2) (x9 := .val (.bl bR)) (x10 := .val (.tup (dNs A))) (x11 := .no) (x12 := .no) (DW := dWeb W) (told := .lst (as.map dA)) (posts := .tup (dNs PS)) (en := en) (what := what) (g := (g : Int)) (rw := rw) eq1 eq2 (fNe_self (n := 8) (by decide) (fit_ansM 7 _ _ _))
  have h0l : 0 ≤ sizeLine := Nat.zero_le _
  have a10 : S10 [x0, x1, x2, .val (dWeb W), .val (.int (g : Int)), .val (.lst (as.map dA)), .val (.tup (dNs PS)), .val en, .val what, .val (.bl bR), x10, .no, .no] rw = .ok (.next, [x0, x1, x2, .val (dWeb W), .val (.int (g : Int)), .val (.lst (as.map dA)), .val (.tup (dNs PS)), .val en, .val what, .val (.bl bR), .val (.tup (dNs A)), .no, .no], rw) := by
    cases bR with
    | true =>
      obtain ⟨rfl, hs⟩ := hA rfl
      simp -implicitDefEqProofs only [S10, sSet_ap, eIf_ap, toB_ap, eV_ap, List.getElem?_cons_succ, List.getElem?_cons_zero, getV_val, bind_ok, toBK_bl, if_true, eSl_ap, pNone_ap, pSome_ap, hs, ofO_some, List.set_cons_succ, List.set_cons_zero]
    | false =>
      have := hA0 rfl
      subst this
      have ed : dNs [] = [] := rfl
      rw [ed]
      simp -implicitDefEqProofs only [S10, sSet_ap, eIf_ap, toB_ap, eV_ap, List.getElem?_cons_succ, List.getElem?_cons_zero, getV_val, bind_ok, toBK_bl, Bool.false_eq_true, if_false, eTup_ap, aNil_ap, List.length_nil, h0l, if_true, ofO_some, List.set_cons_succ, List.set_cons_zero]
  refine ⟨.val (.lst (as.map dA)), .val (.tup (dNs PS)), .val en, .val what, .val (.bl bR), .val (.tup (dNs A)), ?_⟩
  generalize dWeb W = DW at *
  generalize as.map dA = AD at *
  generalize hPSD : dNs PS = PSD at *
  generalize hAD2 : dNs A = AA at *
  simp -implicitDefEqProofs only [inner, sSeq_ap, sSet_ap, eCall_ap, aCons_ap, aNil_ap, eV_ap, eK_ap, eArgs_ap, List.getElem?_cons_succ, List.getElem?_cons_zero, getV_val, bind_ok, ea, List.set_cons_succ, List.set_cons_zero, seqK_next, sAsg_ap, hwalk, hg, es, a1, a2, hI, ofO_some, a10, a3, a4, a5, a6]
theorem kt : PyData.strOk "there" = true := by decide +kernel
theorem kr : PyData.strOk "ring" = true := by decide +kernel
theorem ko : PyData.strOk "open" = true := by decide +kernel
theorem kl : PyData.strOk "lost" = true := by decide +kernel
theorem d1 : decide (Str.ofString "open" = Str.ofString "there") = false := by decide +kernel
theorem d2 : decide (Str.ofString "open" = Str.ofString "ring") = false := by decide +kernel
theorem d3 : decide (Str.ofString "ring" = Str.ofString "there") = false := by decide +kernel
theorem d4 : decide (Str.ofString "there" = Str.ofString "ring") = false := by decide +kernel
theorem d5 : decide (Str.ofString "lost" = Str.ofString "there") = false := by decide +kernel
theorem oT : fEq (.str "open") (.str "there") = some (.bl false) := by rw [fEq_ss ko kt, d1]
theorem oR : fEq (.str "open") (.str "ring") = some (.bl false) := by rw [fEq_ss ko kr, d2]
theorem oR2 : fNe (.str "open") (.str "ring") = some (.bl (!false)) := by rw [fNe_ss ko kr, d2]
theorem rT : fEq (.str "ring") (.str "there") = some (.bl false) := by rw [fEq_ss kr kt, d3]
theorem rR : fEq (.str "ring") (.str "ring") = some (.bl true) := by rw [fEq_ss kr kr, decide_eq_true rfl]
theorem rR2 : fNe (.str "ring") (.str "ring") = some (.bl (!true)) := by rw [fNe_ss kr kr, decide_eq_true rfl]
theorem tT : fEq (.str "there") (.str "there") = some (.bl true) := by rw [fEq_ss kt kt, decide_eq_true rfl]
theorem tR : fEq (.str "there") (.str "ring") = some (.bl false) := by rw [fEq_ss kt kr, d4]
theorem tR2 : fNe (.str "there") (.str "ring") = some (.bl (!false)) := by rw [fNe_ss kt kr, d4]
theorem lT : fEq (.str "lost") (.str "there") = some (.bl false) := by rw [fEq_ss kl kt, d5]
theorem isiS (z : Str) : fIsi [.str z, .raw (.ty "int")] = some (.bl false) := by
  have e : isT "str" "int" = some false := by decide
  rw [fIsi_ap]
  show (isT "str" "int").map _ = _
  rw [e]
  rfl
theorem isiI (i : Int) : fIsi [.int i, .raw (.ty "int")] = some (.bl true) := by
  have e : isT "int" "int" = some true := by decide
  rw [fIsi_ap]
  show (isT "int" "int").map _ = _
  rw [e]
  rfl
theorem ne_same (i : Int) : fNe (.int i) (.int i) = some (.bl false) := by simp
theorem inner_ok {W : Web} (h : WebOk W) {g : Nat} (h1 : 1 ≤ g) (h2 : g < W.many) (x0 x1 x2 x5 x6 x7 x8 x9 x10 : Sl) (rw : Rw) :
    ∃ y5 y6 y7 y8 y9 y10, inner [x0, x1, x2, .val (dWeb W), .val (.int (g : Int)), x5, x6, x7, x8, x9, x10, .no, .no] rw = .ok (.next, [x0, x1, x2, .val (dWeb W), .val (.int (g : Int)), y5, y6, y7, y8, y9, y10, .no, .no], rw) := by
  obtain ⟨w, hw⟩ := h.wayAt h1 h2
  have hinv : WkInv W.many g [] 0 := ⟨fun p hp => by simp at hp; subst hp; have := h.lo; omega, by simp⟩
  obtain ⟨d, hd⟩ := walkM_some hw.ok (W.many + 1) [] 0 hinv (by simp)
  have e1 := walk_ok (rw := rw) h h1 h2 hw.at_ hw.ok hd
  obtain ⟨P, ht, hcase⟩ := walk_spec hw.ok h1 h2 hd
  have hPl := ht.len h2
  have hhi := h.hi
  have hV : fIn true (.int (g : Int)) (.tup (dNs W.silent)) = some (.bl (!decide (g ∈ W.silent))) := by
    rw [fIn_dNsT]
    rfl
  have hpos : ∀ j, j < P.length → posM w g j ≠ some g := fun j hj e => by
    obtain ⟨p, p1, _, _, p4⟩ := ht.some_ hj
    rw [p1] at e
    cases e
    exact p4 rfl
  rcases hcase with ⟨rfl, hend⟩ | ⟨rfl, hend⟩ | ⟨u, hu, hend, rfl⟩
  · -- lost
    have hnone : ∀ j, P.length ≤ j → posM w g j = none := fun j hj => by
      have := posM_stop (.inl hend) (j - P.length)
      rw [show P.length + (j - P.length) = j by omega, hend] at this
      exact this
    have hsh := shows_not (S := W.silent) (w := w) (g := g) (n := 2 * W.many) fun j _ e => by
      by_cases z : j + 1 < P.length
      · exact (hpos _ z e).elim
      · rw [hnone _ (by omega)] at e; cases e
    have hnr := no_ring (S := W.silent) (w := w) (g := g) (n := 2 * W.many) fun a b hab _ p pa pb => by
      by_cases z : b + 1 < P.length
      · have := ht.inj (by omega) z (pa.trans pb.symm)
        omega
      · rw [hnone _ (by omega)] at pb; cases pb
    rw [hnr, Option.getD_none] at hsh
    exact concl (A := []) (bT := false) (bE := false) (bR := false) (bG := false) (y1 := .non) (y2 := .non) (i := 0) h hw e1 hsh (by simp) oT lT hV rfl (fun z => by cases z) (isiS _) (fun z => by cases z) (fun _ => rfl) (by decide) oR oR2 (fun z => by cases z) (fun z => by cases z) x0 x1 x2 x5 x6 x7 x8 x9 x10
  · -- there
    by_cases hs : g ∈ W.silent
    · have hstop : ∀ j, P.length ≤ j → posM w g j = some g := fun j hj => by
        have := posM_stop (.inr hend) (j - P.length)
        rw [show P.length + (j - P.length) = j by omega, hend] at this
        exact this
      have hsh := shows_not (S := W.silent) (w := w) (g := g) (n := 2 * W.many) fun j _ _ => hs
      have hnr := no_ring (S := W.silent) (w := w) (g := g) (n := 2 * W.many) fun a b hab _ p pa pb => by
        by_cases z : b + 1 < P.length
        · have := ht.inj (by omega) z (pa.trans pb.symm)
          omega
        · rw [hstop _ (by omega)] at pb
          cases pb
          exact hs
      rw [hnr, Option.getD_none] at hsh
      rw [decide_eq_true hs] at hV
      exact concl (A := []) (bT := false) (bE := true) (bR := false) (bG := false) (y1 := .non) (y2 := .non) (i := 0) h hw e1 hsh (by simp) oT tT hV rfl (fun z => by cases z) (isiS _) (fun z => by cases z) (fun _ => rfl) (by decide) oR oR2 (fun z => by cases z) (fun z => by cases z) x0 x1 x2 x5 x6 x7 x8 x9 x10
    · have hne := ht.ne
      have hsh := shows_there (S := W.silent) (w := w) (g := g) (n := 2 * W.many) (k := P.length - 1) (by omega) (by rw [show P.length - 1 + 1 = P.length by omega]; exact hend) hs fun j hj e => hpos (j + 1) (by omega) e
      rw [decide_eq_false hs] at hV
      refine concl (A := []) (bT := true) (bE := true) (bR := false) (bG := false) (y1 := .int ((P.length - 1 + 1 : Nat) : Int)) (y2 := .non) (i := 0) h hw e1 hsh (by simp) tT tT hV rfl (fun _ => ⟨by simp, ?_⟩) (isiS _) (fun z => by cases z) (fun _ => rfl) (by decide) tR tR2 (fun z => by cases z) (fun z => by cases z) x0 x1 x2 x5 x6 x7 x8 x9 x10
      have : (((dNs (P ++ [g])).length : Nat) : Int) - 1 = ((P.length - 1 + 1 : Nat) : Int) := by rw [dNs_len]; simp; omega
      rw [this]
      exact ne_same _
  · -- round
    obtain ⟨hi, _, _⟩ := fst_lt hu
    have hper := round_per ht hu hend
    have hsh := shows_not (S := W.silent) (w := w) (g := g) (n := 2 * W.many) fun j _ e => by
      obtain ⟨a, a1, a2⟩ := round_goal ht hi hper (j + 1)
      exact (hpos a a1 (by rw [← a2]; exact e)).elim
    have hsl : fSl (.tup (dNs P)) (some (fst_ u P : Nat)) none = some (.tup (dNs (P.drop (fst_ u P)))) := by
      rw [fSl_tup, cut_from (by rw [dNs_len]; omega)]
      unfold dNs
      rw [List.map_drop]
    have hdl : (P.drop (fst_ u P)).length ≤ 100 := by rw [List.length_drop]; omega
    cases hr : ringAll (toldA W.silent w g (2 * W.many)) with
    | some z =>
      rw [hr, Option.getD_some] at hsh
      obtain ⟨a, rfl⟩ := ring_round ht hi hper hr
      refine concl (A := P.drop (fst_ u P)) (bT := false) (bE := false) (bR := true) (bG := true) (y1 := .non) (y2 := .int ((P.length - fst_ u P : Nat) : Int)) (i := (fst_ u P : Nat)) h hw e1 hsh (by simp) rT (fEq_is kt) hV rfl (fun z => by cases z) (isiI _) (fun _ => ⟨rfl, hsl⟩) (fun z => by cases z) hdl rR rR2 (fun _ => ⟨rfl, by simp, ?_⟩) (fun _ _ => rfl) x0 x1 x2 x5 x6 x7 x8 x9 x10
      rw [dNs_len, List.length_drop]
      exact ne_same _
    | none =>
      rw [hr, Option.getD_none] at hsh
      refine concl (A := P.drop (fst_ u P)) (bT := false) (bE := false) (bR := true) (bG := false) (y1 := .non) (y2 := .non) (i := (fst_ u P : Nat)) h hw e1 hsh (by simp) oT (fEq_is kt) hV rfl (fun z => by cases z) (isiI _) (fun _ => ⟨rfl, hsl⟩) (fun z => by cases z) hdl oR oR2 (fun z => by cases z) (fun _ hall => ?_) x0 x1 x2 x5 x6 x7 x8 x9 x10
      refine (ring_there (S := W.silent) (n := 2 * W.many) ht hi hper (by omega) (fun j j1 j2 p hp => hall p ?_) hr).elim
      refine List.mem_of_getElem? (i := j - fst_ u P) ?_
      rw [List.getElem?_drop, show fst_ u P + (j - fst_ u P) = j by omega]
      exact hp
theorem goals {W : Web} (h : WebOk W) (x0 x1 x2 : Sl) (rw : Rw) : ∀ (ds : List Nat) (x4 x5 x6 x7 x8 x9 x10 : Sl), (∀ g ∈ ds, 1 ≤ g ∧ g < W.many) → ∃ x4' x5' x6' x7' x8' x9' x10', sLoop (gN 4) inner (dNs ds) [x0, x1, x2, .val (dWeb W), x4, x5, x6, x7, x8, x9, x10, .no, .no] rw = .ok (.next, [x0, x1, x2, .val (dWeb W), x4', x5', x6', x7', x8', x9', x10', .no, .no], rw)
  | [], x4, x5, x6, x7, x8, x9, x10, _ => ⟨x4, x5, x6, x7, x8, x9, x10, rfl⟩
  | g :: ds, x4, x5, x6, x7, x8, x9, x10, hg => by
    obtain ⟨h1, h2⟩ := hg g (by simp)
    obtain ⟨a5, a6, a7, a8, a9, a10, e1⟩ := inner_ok h h1 h2 x0 x1 x2 x5 x6 x7 x8 x9 x10 rw
    obtain ⟨b4, b5, b6, b7, b8, b9, b10, e⟩ := goals h x0 x1 x2 rw ds (.val (.int (g : Int))) a5 a6 a7 a8 a9 a10 fun a ha => hg a (by simp [ha])
    refine ⟨b4, b5, b6, b7, b8, b9, b10, ?_⟩
    show sLoop (gN 4) inner (.int (g : Int) :: dNs ds) _ rw = _
    unfold sLoop
    simp only [gN_ap, List.set_cons_succ, List.set_cons_zero]
    rw [e1]
    exact e
def outer : SM := sSeq (sSet 3 (eCall d__law_web (aCons (eV 1) (aCons (eK (.int 2)) (aCons (eK (.int 6)) aNil))))) (sFor (aRng rng2 (aCons (eK (.int 1)) (aCons (eBin fIx (eV 3) (eK (.int 0))) aNil))) (gN 4) inner)
theorem turn (x0 x2 x3 x4 x5 x6 x7 x8 x9 x10 : Sl) (rw : Rw) (hv : RV rw) : ∃ x3' x4' x5' x6' x7' x8' x9' x10' rw', outer [x0, .val .row, x2, x3, x4, x5, x6, x7, x8, x9, x10, .no, .no] rw = .ok (.next, [x0, .val .row, x2, x3', x4', x5', x6', x7', x8', x9', x10', .no, .no], rw') ∧ RV rw' := by
  obtain ⟨W, rw', e1, r1, hw, _, _⟩ := web_ok (a := 2) (b := 6) (by decide) (by decide) (by decide) hv
  obtain ⟨x4', x5', x6', x7', x8', x9', x10', e2⟩ := goals hw x0 (.val .row) x2 rw' (List.range' 1 (W.many - 1)) x4 x5 x6 x7 x8 x9 x10 fun g hg => by
    have := List.mem_range'_1.mp hg
    omega
  refine ⟨.val (dWeb W), x4', x5', x6', x7', x8', x9', x10', rw', ?_, r1⟩
  have ez := ix0 W
  have hr : rng2 [.int 1, .int (W.many : Int)] = some (dNs (List.range' 1 (W.many - 1))) := by
    rw [← rangeD_dNs]
    exact rng2_of' (a := 1) rfl rfl (by decide) (by have := hw.hi; omega)
  have e1' : d__law_web [.row, .int 2, .int 6] rw = .ok (dWeb W, rw') := e1
  unfold outer
  simp -implicitDefEqProofs only [sSeq_ap, sSet_ap, eCall_ap, aCons_ap, aNil_ap, eV_ap, eK_ap, List.getElem?_cons_succ, List.getElem?_cons_zero, getV_val, bind_ok, e1', List.set_cons_succ, List.set_cons_zero, seqK_next, sFor_ap, aRng_ap, eBin_ap, ez, ofO_some, hr, e2]
theorem turns (x0 : Sl) : ∀ (ds : List D) (x2 x3 x4 x5 x6 x7 x8 x9 x10 : Sl) (rw : Rw), RV rw → ∃ l' rw', sLoop (gN 2) outer ds [x0, .val .row, x2, x3, x4, x5, x6, x7, x8, x9, x10, .no, .no] rw = .ok (.next, l', rw')
  | [], x2, x3, x4, x5, x6, x7, x8, x9, x10, rw, _ => ⟨_, _, rfl⟩
  | d :: ds, x2, x3, x4, x5, x6, x7, x8, x9, x10, rw, hv => by
    obtain ⟨a3, a4, a5, a6, a7, a8, a9, a10, rw', e, hv'⟩ := turn x0 (.val d) x3 x4 x5 x6 x7 x8 x9 x10 rw hv
    obtain ⟨l', rw'', e2⟩ := turns x0 ds (.val d) a3 a4 a5 a6 a7 a8 a9 a10 rw' hv'
    refine ⟨l', rw'', ?_⟩
    unfold sLoop
    simp only [gN_ap, List.set_cons_succ, List.set_cons_zero]
    rw [e]
    exact e2
theorem pure_law : K05.pureLaw := by
  intro ns hn
  have hv : RV (some ⟨ns, 0, 0⟩) := ⟨_, rfl, Int.le_refl 0, hn⟩
  obtain ⟨l', rw', e⟩ := turns (.val (.scr ns)) (rangeD 0 5) .no .no .no .no .no .no .no .no .no _ hv
  refine ⟨l', rw', ?_⟩
  have hr : rng1 [.int 5] = some (rangeD 0 5) := rng1_of' (n := 5) rfl (by decide)
  have e' : b_law = sSeq (sFor (aRng rng1 (aCons (eK (.int 5)) aNil)) (gN 2) outer) (sRet (eK (.bl true))) := rfl
  rw [e']
  simp -implicitDefEqProofs only [List.replicate, sSeq_ap, sFor_ap, aRng_ap, aCons_ap, aNil_ap, eK_ap, bind_ok, hr, ofO_some, e, seqK_next, sRet_ap]
end K05
end
open PySem PySem.W PySem.Calls PyProof.Rows
theorem PySem.Challenge.cw_hopmark_k05_whole_returns_go_with_the_we_holds : PySem.Challenge.rw_hopmark_k05_whole_returns_go_with_the_we.Holds :=
by
  w_on; o_law
  refine HandSHeadRun.head_any (r := OpenLaw.row PySem.Challenge.rw_hopmark_k05_whole_returns_go_with_the_we) (q := view (OpenLaw.row PySem.Challenge.rw_hopmark_k05_whole_returns_go_with_the_we).prog [30]) (H := K05.hk) (ob := K05.ob) (M := 4000) (loose := ((["HopError", "BadWeb", "BadAsk", "LEAST_MANY", "MOST_MANY", "MOST_HOPS", "is_many", "is_way", "need_web", "need_ask", "NOTHING", "steps_to", "posts_on", "answer_of", "answers_of", "asked", "answers", "walk", "ring_in", "shows", "steps", "_law_taken", "_law_way", "_law_web", "_law_asked"] : List Str))) (d := HandSHeadRun.topDef (OpenLaw.row PySem.Challenge.rw_hopmark_k05_whole_returns_go_with_the_we).prog 30) (kwd := []) K05.ob_eq
    (by kernel_rfl) (fun s => by kernel_rfl) K05.run (by kernel_rfl) (by kernel_rfl) (by kernel_rfl) (by rfl) (by first | assumption | decide +kernel) (by decide +kernel) ⟨rfl, rfl, rfl, rfl, rfl, by decide +kernel⟩ ?hw ?hc
  case hw => w_witness2
  case hc =>
    refine L2.walk_ofE (l := PySem.Challenge.rw_hopmark_k05_whole_returns_go_with_the_we) (n := 63) (k := 4) (x := "_law_script") (CX := HD.CXF) rfl (by decide) (by kernel_rfl) ⟨rfl, by decide, by decide⟩ ?F (fun _ _ _ _ z => z)
    intro w mg fa h Y G hmg0
    obtain ⟨K, KX, c, ce⟩ := Y
    have hmg : mg ("law" : PySem.Str) = some (.ref fa) := by
      have e : (HandSHeadRun.topDef (OpenLaw.row PySem.Challenge.rw_hopmark_k05_whole_returns_go_with_the_we).prog 30).name = ("law" : PySem.Str) := by kernel_rfl
      rw [← e]
      exact hmg0
    obtain ⟨fd, hb, hF⟩ := K05.facts K05.pure_law (P := (PySem.Challenge.rw_hopmark_k05_whole_returns_go_with_the_we).prog) (w := w) KX G hmg c ce
    exact ⟨K, fd, HD.spL K, KX, hb, fun H a ns hl hO hS => ⟨a, ns, rfl, hS, hO, hl, fun _ => rfl⟩, hF⟩
