import PyProof.Rows.All
import Wide.All
import OpenK.AllK
import Wide.FinOn
import HandS.ForMost
import HandS.Lambda
import HandS.IsInst
import HandS.TupAny
import HandS.Deep
import HandS.Flow
import HandS.Defaults
import HandS.SetFor
import HandS.Strs
import HandS.TupMul
import HandS.ForSpec
import HandS.Head0
import HandS.Head1
import HandS.Head2
import HandS.HeadEnd
import HandS.HeadHook1
import HandS.HeadHook2
import HandS.Text
import HandS.SortKw
import HandS.Conv
import HandS.Sort
import KE.SortKeyHeap
import KE.KDictList
import HandS.HeadHook4
import HandS.HeadWalk
import HandS.SortInts
import PySem.Challenge.RW_hopmark_k08_whole_who_is_silent
set_option Elab.async false
set_option linter.all false
set_option maxRecDepth 100000
set_option maxHeartbeats 4000000
section
/-! A data layer over the hand layer: values as trees, readings as total functions. -/
namespace HD
open PySem PySem.Spec L2
open PyProof.Rows hiding St

/-! ### trees -/
inductive D where
  | non | bl (b : Bool) | int (i : Int) | str (x : Str)
  | tup (xs : List D) | lst (xs : List D) | dic (ks : List Int) (xs : List D)
  | raw (v : V) | row | scr (ns : List Int)

/-- what the counted list of a law holds: the script, a place, a mixed number -/
structure RwS where
  ns : List Int
  ix : Int
  mx : Int
abbrev Rw := Option RwS

mutual
def Rep (K : PySem.W.Frag) (r : Option Addr) (G : Hp) : D → V → Prop
  | .non, v => v = .non
  | .bl b, v => v = .bl b
  | .int i, v => v = .int i
  | .str x, v => v = .str x
  | .tup xs, v => ∃ a vs, v = .ref a ∧ SqT K G a vs ∧ vs.length ≤ sizeLine ∧ Reps K r G xs vs
  | .lst xs, v => ∃ a vs, v = .ref a ∧ G a = some (.lst vs) ∧ vs.length ≤ sizeLine ∧ Reps K r G xs vs
  | .dic ks xs, v => ∃ a od kvs vs, v = .ref a ∧ G a = some (.frz od (.dK kvs)) ∧ kvs.length ≤ sizeLine ∧ kvs.map (·.1) = ks.map Sum.inl ∧ kvs.map (·.2) = vs ∧ Reps K r G xs vs
  | .raw u, v => v = u
  | .row, v => ∃ a, r = some a ∧ v = .ref a
  | .scr ns, v => ∃ a, v = .ref a ∧ ((∃ o, G a = some (.frz o (.lst (ns.map V.int)))) ∨ SqL K (fun _ => none) a (ns.map V.int)) ∧ ns.length ≤ sizeLine
def Reps (K : PySem.W.Frag) (r : Option Addr) (G : Hp) : List D → List V → Prop
  | [], vs => vs = []
  | d :: ds, vs => ∃ v t, vs = v :: t ∧ Rep K r G d v ∧ Reps K r G ds t
end

theorem Same.seqT {K : PySem.W.Frag} {H H' : Hp} {a : Addr} {xs : List V} (e : Same H H') (h : SqT K H a xs) : SqT K H' a xs := by
  rcases h with (h | ⟨o, h⟩) | h
  · exact .inl (.inl (e _ _ h))
  · exact .inl (.inr ⟨o, e _ _ h⟩)
  · exact .inr h

mutual
theorem Rep.mono {K : PySem.W.Frag} {r : Option Addr} {G G' : Hp} (e : Same G G') : ∀ {d : D} {v : V}, Rep K r G d v → Rep K r G' d v
  | .non, _, h => h
  | .bl _, _, h => h
  | .int _, _, h => h
  | .str _, _, h => h
  | .tup xs, v, h => by
    unfold Rep at h ⊢
    obtain ⟨a, vs, h1, h2, h3, h4⟩ := h
    exact ⟨a, vs, h1, Same.seqT e h2, h3, Reps.mono e h4⟩
  | .lst xs, v, h => by
    unfold Rep at h ⊢
    obtain ⟨a, vs, h1, h2, h3, h4⟩ := h
    exact ⟨a, vs, h1, e _ _ h2, h3, Reps.mono e h4⟩
  | .dic ks xs, v, h => by
    unfold Rep at h ⊢
    obtain ⟨a, od, kvs, vs, h1, h2, h3, h4, h5, h6⟩ := h
    exact ⟨a, od, kvs, vs, h1, e _ _ h2, h3, h4, h5, Reps.mono e h6⟩
  | .raw _, _, h => h
  | .row, _, h => h
  | .scr ns, v, h => by
    unfold Rep at h ⊢
    obtain ⟨a, h1, h2, h3⟩ := h
    exact ⟨a, h1, h2.imp (fun ⟨o, q⟩ => ⟨o, e _ _ q⟩) id, h3⟩
theorem Reps.mono {K : PySem.W.Frag} {r : Option Addr} {G G' : Hp} (e : Same G G') : ∀ {ds : List D} {vs : List V}, Reps K r G ds vs → Reps K r G' ds vs
  | [], _, h => h
  | d :: ds, vs, h => by
    unfold Reps at h ⊢
    obtain ⟨v, t, h1, h2, h3⟩ := h
    exact ⟨v, t, h1, Rep.mono e h2, Reps.mono e h3⟩
end

section
variable {K : PySem.W.Frag} {r : Option Addr} {G : Hp}
theorem Reps.nil : Reps K r G [] [] := by unfold Reps; rfl
theorem Reps.cons {d : D} {v : V} {ds : List D} {vs : List V} (h : Rep K r G d v) (t : Reps K r G ds vs) : Reps K r G (d :: ds) (v :: vs) := by
  unfold Reps; exact ⟨v, vs, rfl, h, t⟩
theorem Reps.length : ∀ {ds : List D} {vs : List V}, Reps K r G ds vs → ds.length = vs.length
  | [], _, h => by unfold Reps at h; subst h; rfl
  | d :: ds, vs, h => by
    unfold Reps at h
    obtain ⟨v, t, rfl, _, h3⟩ := h
    simp [Reps.length h3]
theorem Reps.get : ∀ {ds : List D} {vs : List V} {i : Nat} {d : D}, Reps K r G ds vs → ds[i]? = some d → ∃ v, vs[i]? = some v ∧ Rep K r G d v
  | [], _, _, _, _, h => by simp at h
  | d :: ds, vs, 0, e, h, h2 => by
    unfold Reps at h
    obtain ⟨v, t, rfl, h1, h3⟩ := h
    simp at h2; subst h2
    exact ⟨v, by simp, h1⟩
  | d :: ds, vs, i + 1, e, h, h2 => by
    unfold Reps at h
    obtain ⟨v, t, rfl, h1, h3⟩ := h
    obtain ⟨u, h4, h5⟩ := Reps.get (i := i) h3 (by simpa using h2)
    exact ⟨u, by simpa using h4, h5⟩
theorem Reps.got : ∀ {ds : List D} {vs : List V} {i : Nat} {v : V}, Reps K r G ds vs → vs[i]? = some v → ∃ d, ds[i]? = some d ∧ Rep K r G d v := fun {ds vs i v} h e => by
  have hl := h.length
  have hi : i < vs.length := (List.getElem?_eq_some_iff.mp e).1
  obtain ⟨u, h1, h2⟩ := Reps.get h (List.getElem?_eq_getElem (show i < ds.length by omega))
  rw [e] at h1; cases h1
  exact ⟨_, List.getElem?_eq_getElem (show i < ds.length by omega), h2⟩
theorem Reps.append : ∀ {ds es : List D} {vs us : List V}, Reps K r G ds vs → Reps K r G es us → Reps K r G (ds ++ es) (vs ++ us)
  | [], _, _, _, h, t => by unfold Reps at h; subst h; exact t
  | d :: ds, es, vs, us, h, t => by
    unfold Reps at h
    obtain ⟨v, w, rfl, h1, h3⟩ := h
    exact Reps.cons h1 (Reps.append h3 t)
theorem Reps.set : ∀ {ds : List D} {vs : List V} {d : D} {v : V} (i : Nat), Reps K r G ds vs → Rep K r G d v → Reps K r G (ds.set i d) (vs.set i v)
  | [], _, _, _, _, h, _ => by unfold Reps at h; subst h; exact Reps.nil
  | d :: ds, vs, e, u, 0, h, t => by
    unfold Reps at h
    obtain ⟨v, w, rfl, h1, h3⟩ := h
    exact Reps.cons t h3
  | d :: ds, vs, e, u, i + 1, h, t => by
    unfold Reps at h
    obtain ⟨v, w, rfl, h1, h3⟩ := h
    exact Reps.cons h1 (Reps.set i h3 t)
theorem Reps.take : ∀ {ds : List D} {vs : List V} (n : Nat), Reps K r G ds vs → Reps K r G (ds.take n) (vs.take n)
  | _, _, 0, _ => by simp; exact Reps.nil
  | [], _, _ + 1, h => by unfold Reps at h; subst h; exact Reps.nil
  | d :: ds, vs, n + 1, h => by
    unfold Reps at h
    obtain ⟨v, w, rfl, h1, h3⟩ := h
    exact Reps.cons h1 (Reps.take n h3)
theorem Reps.drop : ∀ {ds : List D} {vs : List V} (n : Nat), Reps K r G ds vs → Reps K r G (ds.drop n) (vs.drop n)
  | _, _, 0, h => h
  | [], _, _ + 1, h => by unfold Reps at h; subst h; exact Reps.nil
  | d :: ds, vs, n + 1, h => by
    unfold Reps at h
    obtain ⟨v, w, rfl, h1, h3⟩ := h
    exact Reps.drop n h3
theorem Reps.eraseIdx : ∀ {ds : List D} {vs : List V} (n : Nat), Reps K r G ds vs → Reps K r G (ds.eraseIdx n) (vs.eraseIdx n)
  | [], _, _, h => by unfold Reps at h; subst h; exact Reps.nil
  | d :: ds, vs, 0, h => by
    unfold Reps at h
    obtain ⟨v, w, rfl, h1, h3⟩ := h
    exact h3
  | d :: ds, vs, n + 1, h => by
    unfold Reps at h
    obtain ⟨v, w, rfl, h1, h3⟩ := h
    exact Reps.cons h1 (Reps.eraseIdx n h3)
theorem Reps.reverse : ∀ {ds : List D} {vs : List V}, Reps K r G ds vs → Reps K r G ds.reverse vs.reverse
  | [], _, h => by unfold Reps at h; subst h; exact Reps.nil
  | d :: ds, vs, h => by
    unfold Reps at h
    obtain ⟨v, w, rfl, h1, h3⟩ := h
    rw [List.reverse_cons, List.reverse_cons]
    exact Reps.append (Reps.reverse h3) (Reps.cons h1 Reps.nil)
theorem Reps.ints : ∀ {ns : List Int} {vs : List V}, Reps K r G (ns.map D.int) vs → vs = ns.map V.int
  | [], _, h => by unfold Reps at h; exact h
  | n :: ns, vs, h => by
    unfold Reps at h
    obtain ⟨v, w, rfl, h1, h3⟩ := h
    unfold Rep at h1
    rw [h1, Reps.ints h3]; rfl
theorem Reps.of_ints : ∀ (ns : List Int), Reps K r G (ns.map D.int) (ns.map V.int)
  | [] => Reps.nil
  | n :: ns => Reps.cons (by unfold Rep; rfl) (Reps.of_ints ns)
end

/-! ### results -/
inductive Exn where
  | web (w : Str) | ask | log (n : Int) | text (n : Int)
inductive R (α : Type) where
  | ok (a : α)
  | exc (x : Exn) (rw : Rw)
  | stuck
def R.bind {α β : Type} (r : R α) (f : α → R β) : R β := match r with
  | .ok a => f a
  | .exc x w => .exc x w
  | .stuck => .stuck
inductive Sl where
  | no
  | val (d : D)
  | own (d : D)
abbrev Dl := List Sl
abbrev EM (α : Type) := Dl → Rw → R (α × Rw)
inductive Fl where
  | next | ret (d : D) | brk | cont
abbrev SM := Dl → Rw → R (Fl × Dl × Rw)
abbrev FD := List D → Rw → R (D × Rw)

/-! ### heaps that grow -/
/-- the defs of the program and of the laws that make a lambda -/
def lamNames : List Str := ["all_silent", "law", "_law_works", "_law_asks", "_law_logs"]
/-- the tables of their code objects, and what is made by them -/
def tabT (K : PySem.W.Frag) : List (Addr × Str) := lamNames.filterMap fun x => (PySem.W.tabIn K x).map fun p => (p.2, (x ++ (".<locals>." : Str)) ++ ("<lambda>" : Str))
/-- the tables of code objects stay good -/
def TabR (K : PySem.W.Frag) (H H' : Hp) : Prop := LamX.Tabs (tabT K) H → LamX.Tabs (tabT K) H'
theorem TabR.refl {K : PySem.W.Frag} (H : Hp) : TabR K H H := fun h => h
theorem TabR.trans {K : PySem.W.Frag} {H H1 H2 : Hp} (x : TabR K H H1) (y : TabR K H1 H2) : TabR K H H2 := fun h => y (x h)
def TbX (o : HO) : Prop := (∃ ps, o = .tbl ps) ∨ ∃ φ, o = .ext φ
theorem TabR.of {K : PySem.W.Frag} {H H' : Hp} (e : ∀ a o, H a = some o → TbX o → H' a = some o) : TabR K H H' := fun h p hp => by
  obtain ⟨ps, h1, h2, h3⟩ := h p hp
  refine ⟨ps, e _ _ h1 (.inl ⟨ps, rfl⟩), h2, fun pos cv hc => ?_⟩
  obtain ⟨c, e1, e2⟩ := h3 pos cv hc
  exact ⟨c, e1, e _ _ e2 (.inr ⟨_, rfl⟩)⟩
theorem TabR.put {K : PySem.W.Frag} {H : Hp} {p : Addr} {o : HO} (h : ∀ u, H p = some u → ¬ TbX u) : TabR K H (upd H p o) := TabR.of fun a u e t => by
  rw [upd_ne fun z => h u (by rw [← z]; exact e) t]; exact e
theorem TabR.new {K : PySem.W.Frag} {H : Hp} {p : Addr} {o : HO} (h : H p = none) : TabR K H (upd H p o) := TabR.put fun u e => by rw [h] at e; cases e
def nTb (o : HO) : Prop := ∀ ps, o ≠ .tbl ps
theorem nTb_lst {xs : List V} : nTb (.lst xs) := fun _ z => nomatch z
theorem nTb_dK {xs : List (Key × V)} : nTb (.dK xs) := fun _ z => nomatch z
/-- nothing tracked changes but the row and the tables; the visible heap grows by new things -/
structure Gr (K : PySem.W.Frag) (r : Option Addr) (H G H' G' : Hp) : Prop where
  h : ∀ a o, H a = some o → r ≠ some a → nTb o → H' a = some o
  g : Same G G'
  n : ∀ a o, G' a = some o → G a = some o ∨ (H a = none ∧ nTb o)
  s : Same G' H'
  t : ∀ a o, H a = some o → ∃ o', H' a = some o'
  tb : TabR K H H'
theorem Gr.refl {K : PySem.W.Frag} {r : Option Addr} {H G : Hp} (s : Same G H) : Gr K r H G H G := ⟨fun _ _ h _ _ => h, Same.refl _, fun _ _ h => .inl h, s, fun _ o h => ⟨o, h⟩, TabR.refl _⟩
theorem Gr.trans {K : PySem.W.Frag} {r : Option Addr} {H G H1 G1 H2 G2 : Hp} (x : Gr K r H G H1 G1) (y : Gr K r H1 G1 H2 G2) : Gr K r H G H2 G2 where
  h := fun a o h ne nt => y.h _ _ (x.h _ _ h ne nt) ne nt
  g := x.g.trans y.g
  n := fun a o h => by
    rcases y.n a o h with z | ⟨z, nt⟩
    · exact x.n a o z
    · cases q : H a with
      | none => exact .inr ⟨rfl, nt⟩
      | some u =>
        obtain ⟨u', e⟩ := x.t a u q
        rw [z] at e
        cases e
  s := y.s
  t := fun a o h => let ⟨_, e⟩ := x.t a o h; y.t _ _ e
  tb := x.tb.trans y.tb
theorem Gr.new {K : PySem.W.Frag} {r : Option Addr} {H G : Hp} (s : Same G H) {p : Addr} {o : HO} (hp : H p = none) (nt : nTb o := by exact fun _ z => nomatch z) : Gr K r H G (upd H p o) (upd G p o) where
  h := fun a u e _ _ => by rw [upd_ne (ne_of_none e hp)]; exact e
  g := fun a u e => by rw [upd_ne (ne_of_none (s _ _ e) hp)]; exact e
  n := fun a u e => by
    by_cases h : a = p
    · subst h; rw [upd_same] at e; cases e; exact .inr ⟨hp, nt⟩
    · rw [upd_ne h] at e; exact .inl e
  s := fun a u e => by
    by_cases h : a = p
    · subst h; rw [upd_same] at e ⊢; exact e
    · rw [upd_ne h] at e ⊢; exact s _ _ e
  t := fun a u e => ⟨u, by rw [upd_ne (ne_of_none e hp)]; exact e⟩
  tb := TabR.new hp
/-- a new object that is not shown -/
theorem Gr.newO {K : PySem.W.Frag} {r : Option Addr} {H G : Hp} (s : Same G H) {p : Addr} {o : HO} (hp : H p = none) : Gr K r H G (upd H p o) G where
  h := fun a u e _ _ => by rw [upd_ne (ne_of_none e hp)]; exact e
  g := Same.refl _
  n := fun a u e => .inl e
  s := fun a u e => by rw [upd_ne (ne_of_none (s _ _ e) hp)]; exact s _ _ e
  t := fun a u e => ⟨u, by rw [upd_ne (ne_of_none e hp)]; exact e⟩
  tb := TabR.new hp
/-- all that stood stays -/
theorem Gr.same {K : PySem.W.Frag} {r : Option Addr} {H G H' : Hp} (s : Same G H) (e : Same H H') : Gr K r H G H' G where
  h := fun a u q _ _ => e _ _ q
  g := Same.refl _
  n := fun a u e => .inl e
  s := s.trans e
  t := fun a u q => ⟨u, e _ _ q⟩
  tb := TabR.of fun a o q _ => e _ _ q

/-! ### the state of a body -/
structure C0 where
  r : Option Addr
  H0 : Hp
  G0 : Hp

def RowOk (K : PySem.W.Frag) (r : Option Addr) (rw : Rw) (H G : Hp) : Prop :=
  match r, rw with
  | none, none => True
  | some a, some w => G a = none ∧ ∃ v, H a = some (.lst [v, .int w.ix, .int w.mx]) ∧ Rep K r G (.scr w.ns) v
  | _, _ => False

/-- a list or a dict that one name alone holds -/
def Own (K : PySem.W.Frag) (C : C0) (H G : Hp) (d : D) (v : V) : Prop := ∃ p, v = .ref p ∧ G p = none ∧ C.H0 p = none ∧ C.r ≠ some p ∧
  match d with
  | .lst ds => ∃ vs, H p = some (.lst vs) ∧ vs.length ≤ sizeLine ∧ Reps K C.r G ds vs
  | .dic ks ds => ∃ kvs vs, H p = some (.dK kvs) ∧ kvs.length ≤ sizeLine ∧ kvs.map (·.1) = ks.map Sum.inl ∧ kvs.map (·.2) = vs ∧ Reps K C.r G ds vs
  | _ => False
def SlRep (K : PySem.W.Frag) (C : C0) (H G : Hp) : Sl → Option V → Prop
  | .no, _ => True
  | .val d, v => ∃ u, v = some u ∧ Rep K C.r G d u
  | .own d, v => ∃ u, v = some u ∧ Own K C H G d u

structure SR (K : PySem.W.Frag) (C : C0) (l : Dl) (rw : Rw) (σ : St) (H G : Hp) : Prop where
  sub : Same G H
  fr : ∀ a o, C.H0 a = some o → C.r ≠ some a → nTb o → H a = some o
  ft : ∀ a o, C.H0 a = some o → ∃ o', H a = some o'
  tabs : LamX.Tabs (tabT K) H
  g0 : Same C.G0 G
  gn : ∀ a o, G a = some o → C.G0 a = some o ∨ C.H0 a = none
  gt : ∀ a o, G a = some o → nTb o
  len : σ.length = l.length
  sl : ∀ (i : Nat) x, l[i]? = some x → ∃ v, σ[i]? = some v ∧ SlRep K C H G x v
  ow : ∀ (i j : Nat) d e p, i ≠ j → l[i]? = some (.own d) → l[j]? = some (.own e) → σ[i]? = some (some (.ref p)) → σ[j]? ≠ some (some (.ref p))
  row : RowOk K C.r rw H G

theorem RowOk.grow {K : PySem.W.Frag} {r : Option Addr} {rw : Rw} {H G H' G' : Hp} (h : RowOk K r rw H G) (e : Same H H') (g : Same G G') (n : ∀ a o, G' a = some o → G a = some o ∨ H a = none) : RowOk K r rw H' G' := by
  unfold RowOk at h ⊢
  cases r with
  | none => cases rw <;> exact h
  | some a =>
    cases rw with
    | none => exact h
    | some w =>
      obtain ⟨h1, v, h2, h3⟩ := h
      refine ⟨?_, v, e _ _ h2, h3.mono g⟩
      cases q : G' a with
      | none => rfl
      | some o =>
        rcases n a o q with z | z
        · rw [h1] at z; cases z
        · rw [h2] at z; cases z
theorem Own.grow {K : PySem.W.Frag} {C : C0} {H G H' G' : Hp} {d : D} {v : V} (h : Own K C H G d v) (x : Gr K C.r H G H' G') : Own K C H' G' d v := by
  obtain ⟨p, h1, h2, h3, h4, h5⟩ := h
  have key : ∀ o, H p = some o → G' p = none := fun o ho => by
    cases q : G' p with
    | none => rfl
    | some o' =>
      rcases x.n p o' q with z | ⟨z, _⟩
      · rw [h2] at z; cases z
      · rw [ho] at z; cases z
  cases d with
  | lst ds =>
    obtain ⟨vs, a1, a2, a3⟩ := h5
    exact ⟨p, h1, key _ a1, h3, h4, vs, x.h _ _ a1 h4 nTb_lst, a2, a3.mono x.g⟩
  | dic ks ds =>
    obtain ⟨kvs, vs, a1, a2, a3, a4, a5⟩ := h5
    exact ⟨p, h1, key _ a1, h3, h4, kvs, vs, x.h _ _ a1 h4 nTb_dK, a2, a3, a4, a5.mono x.g⟩
  | _ => exact h5.elim
theorem SlRep.grow {K : PySem.W.Frag} {C : C0} {H G H' G' : Hp} {x : Sl} {v : Option V} (h : SlRep K C H G x v) (g : Gr K C.r H G H' G') : SlRep K C H' G' x v := by
  cases x with
  | no => trivial
  | val d => obtain ⟨u, e, q⟩ := h; exact ⟨u, e, q.mono g.g⟩
  | own d => obtain ⟨u, e, q⟩ := h; exact ⟨u, e, q.grow g⟩
theorem SR.grow {K : PySem.W.Frag} {C : C0} {l : Dl} {rw rw' : Rw} {σ : St} {H G H' G' : Hp} (h : SR K C l rw σ H G) (g : Gr K C.r H G H' G') (w : RowOk K C.r rw' H' G') : SR K C l rw' σ H' G' := by
  refine ⟨g.s, fun a o e ne nt => g.h _ _ (h.fr a o e ne nt) ne nt, fun a o e => let ⟨o', e'⟩ := h.ft a o e; g.t a o' e', g.tb h.tabs, h.g0.trans g.g, fun a o e => ?_, fun a o e => (g.n a o e).elim (h.gt a o) And.right, h.len, fun i x e => ?_, h.ow, w⟩
  · rcases g.n a o e with z | ⟨z, _⟩
    · exact h.gn a o z
    · cases q : C.H0 a with
      | none => exact .inr rfl
      | some u =>
        obtain ⟨u', e'⟩ := h.ft a u q
        rw [z] at e'; cases e'
  · obtain ⟨v, e1, e2⟩ := h.sl i x e
    exact ⟨v, e1, e2.grow g⟩
/-- the same row content -/
theorem SR.grow0 {K : PySem.W.Frag} {C : C0} {l : Dl} {rw : Rw} {σ : St} {H G H' G' : Hp} (h : SR K C l rw σ H G) (e : Same H H') (g : Gr K C.r H G H' G') : SR K C l rw σ H' G' := h.grow g (h.row.grow e g.g fun a o z => (g.n a o z).imp id And.left)
theorem SR.new {K : PySem.W.Frag} {C : C0} {l : Dl} {rw : Rw} {σ : St} {H G : Hp} (h : SR K C l rw σ H G) {p : Addr} {o : HO} (hp : H p = none) (nt : nTb o := by exact fun _ z => nomatch z) : SR K C l rw σ (upd H p o) (upd G p o) :=
  h.grow0 (fun a u e => by rw [upd_ne (ne_of_none e hp)]; exact e) (Gr.new h.sub hp nt)
theorem SR.newO {K : PySem.W.Frag} {C : C0} {l : Dl} {rw : Rw} {σ : St} {H G : Hp} (h : SR K C l rw σ H G) {p : Addr} {o : HO} (hp : H p = none) : SR K C l rw σ (upd H p o) G :=
  h.grow0 (fun a u e => by rw [upd_ne (ne_of_none e hp)]; exact e) (Gr.newO h.sub hp)

/-! ### readings -/
/-- what is wanted of an exception -/
abbrev WD := Exn → St → Hp → Prop
/-- the result of an expression, brought on -/
def EPost (K : PySem.W.Frag) (W : WD) (C : C0) (l : Dl) (σ : St) (H G : Hp) (q : R (D × Rw)) (Q : VK) : Prop :=
  match q with
  | .ok (d, rw') => ∀ v H' G', SR K C l rw' σ H' G' → Gr K C.r H G H' G' → Rep K C.r G' d v → Q v H'
  | .exc x rw' => ∀ H' G', SR K C l rw' σ H' G' → W x σ H'
  | .stuck => False
def tD (K : PySem.W.Frag) (W : WD) (g : EM D) : TE := fun σ H Q => ∃ C l rw G, SR K C l rw σ H G ∧ EPost K W C l σ H G (g l rw) Q
/-- .. of one whose value is a new list or dict that nothing else holds -/
def OPost (K : PySem.W.Frag) (W : WD) (C : C0) (l : Dl) (σ : St) (H G : Hp) (q : R (D × Rw)) (Q : VK) : Prop :=
  match q with
  | .ok (d, rw') => ∀ p H' G', SR K C l rw' σ H' G' → Gr K C.r H G H' G' → H p = none → Own K C H' G' d (.ref p) → Q (.ref p) H'
  | .exc x rw' => ∀ H' G', SR K C l rw' σ H' G' → W x σ H'
  | .stuck => False
def tO (K : PySem.W.Frag) (W : WD) (g : EM D) : TE := fun σ H Q => ∃ C l rw G, SR K C l rw σ H G ∧ OPost K W C l σ H G (g l rw) Q
def TPost (K : PySem.W.Frag) (W : WD) (C : C0) (l : Dl) (σ : St) (H G : Hp) (q : R (Bool × Rw)) (Q : Bool → Hp → Prop) : Prop :=
  match q with
  | .ok (b, rw') => ∀ H' G', SR K C l rw' σ H' G' → Gr K C.r H G H' G' → Q b H'
  | .exc x rw' => ∀ H' G', SR K C l rw' σ H' G' → W x σ H'
  | .stuck => False
def tT (K : PySem.W.Frag) (W : WD) (g : EM Bool) : TT := fun σ H Q => ∃ C l rw G, SR K C l rw σ H G ∧ TPost K W C l σ H G (g l rw) Q
def APost (K : PySem.W.Frag) (W : WD) (C : C0) (l : Dl) (σ : St) (H G : Hp) (q : R (List D × Rw)) (Q : List V → Hp → Prop) : Prop :=
  match q with
  | .ok (ds, rw') => ∀ vs H' G', SR K C l rw' σ H' G' → Gr K C.r H G H' G' → Reps K C.r G' ds vs → Q vs H'
  | .exc x rw' => ∀ H' G', SR K C l rw' σ H' G' → W x σ H'
  | .stuck => False
def tA (K : PySem.W.Frag) (W : WD) (g : EM (List D)) : TA := fun σ H Q => ∃ C l rw G, SR K C l rw σ H G ∧ APost K W C l σ H G (g l rw) Q
/-- what a def hands back: a value, or a new thing (own) -/
def RetRep (K : PySem.W.Frag) (own : Bool) (C : C0) (H G : Hp) (d : D) (v : V) : Prop := if own = true then Own K C H G d v else Rep K C.r G d v
def SPost (K : PySem.W.Frag) (W : WD) (own : Bool) (C : C0) (q : R (Fl × Dl × Rw)) (E : Ends) : Prop :=
  match q with
  | .ok (.next, l', rw') => ∀ σ' H' G', SR K C l' rw' σ' H' G' → E.nx σ' H'
  | .ok (.ret d, l', rw') => ∀ v σ' H' G', SR K C l' rw' σ' H' G' → RetRep K own C H' G' d v → E.rt v H'
  | .ok (.brk, l', rw') => ∀ σ' H' G', SR K C l' rw' σ' H' G' → E.bk σ' H'
  | .ok (.cont, l', rw') => ∀ σ' H' G', SR K C l' rw' σ' H' G' → E.ct σ' H'
  | .exc x rw' => ∀ l' σ' H' G', SR K C l' rw' σ' H' G' → W x σ' H'
  | .stuck => False
def tS (K : PySem.W.Frag) (W : WD) (own : Bool) (g : SM) : TS := fun E σ H => ∃ C l rw G, SR K C l rw σ H G ∧ SPost K W own C (g l rw) E

abbrev DE (X : Cx) (W : WD) (e : Expr) (g : EM D) : Prop := PE X e (tD X.K W g)
abbrev DO (X : Cx) (W : WD) (e : Expr) (g : EM D) : Prop := PE X e (tO X.K W g)
abbrev DT (X : Cx) (W : WD) (e : Expr) (g : EM Bool) : Prop := PT X e (tT X.K W g)
abbrev DA (X : Cx) (W : WD) (es : List Expr) (g : EM (List D)) : Prop := PA X es (tA X.K W g)
abbrev DS (X : Cx) (W : WD) (own : Bool) (st : Stmt) (g : SM) : Prop := PS X st (tS X.K W own g)
abbrev DSs (X : Cx) (W : WD) (own : Bool) (st : List Stmt) (g : SM) : Prop := PSs X st (tS X.K W own g)

/-! ### weakening -/
theorem pe_imp {X : Cx} {e : Expr} {t t' : TE} (h : PE X e t) (i : ∀ σ H Q, t' σ H Q → t σ H Q) : PE X e t' := ⟨fun pins s σ H Q I q => h.run pins s σ H Q I (i σ H Q q)⟩
theorem pt_imp {X : Cx} {e : Expr} {t t' : TT} (h : PT X e t) (i : ∀ σ H Q, t' σ H Q → t σ H Q) : PT X e t' := ⟨fun pins s σ H Q I q => h.run pins s σ H Q I (i σ H Q q)⟩
theorem pw_imp {X : Cx} {e : Expr} {t t' : TT} (h : PW X e t) (i : ∀ σ H Q, t' σ H Q → t σ H Q) : PW X e t' := ⟨fun wh pins s σ H Q I q => h.run wh pins s σ H Q I (i σ H Q q)⟩
theorem pa_imp {X : Cx} {e : List Expr} {t t' : TA} (h : PA X e t) (i : ∀ σ H Q, t' σ H Q → t σ H Q) : PA X e t' := ⟨fun pos pins s σ H Q I q => h.run pos pins s σ H Q I (i σ H Q q)⟩
theorem ps_imp {X : Cx} {e : Stmt} {t t' : TS} (h : PS X e t) (i : ∀ E σ H, t' E σ H → t E σ H) : PS X e t' := ⟨fun pins s σ H E I q => h.run pins s σ H E I (i E σ H q)⟩
theorem pss_imp {X : Cx} {e : List Stmt} {t t' : TS} (h : PSs X e t) (i : ∀ E σ H, t' E σ H → t E σ H) : PSs X e t' := ⟨fun pins s σ H E I q => h.run pins s σ H E I (i E σ H q)⟩
section
variable {K : PySem.W.Frag} {W : WD} {C : C0} {l : Dl} {σ : St} {H G H' G' : Hp}
/-- a later look at the same wish -/
theorem EPost.later {q : R (D × Rw)} {Q : VK} (s : Gr K C.r H G H' G') (h : EPost K W C l σ H G q Q) : EPost K W C l σ H' G' q Q := by
  cases q with
  | ok p => exact fun v H2 G2 S' s' r => h v H2 G2 S' (s.trans s') r
  | exc x w => exact h
  | stuck => exact h
theorem TPost.later {q : R (Bool × Rw)} {Q : Bool → Hp → Prop} (s : Gr K C.r H G H' G') (h : TPost K W C l σ H G q Q) : TPost K W C l σ H' G' q Q := by
  cases q with
  | ok p => exact fun H2 G2 S' s' => h H2 G2 S' (s.trans s')
  | exc x w => exact h
  | stuck => exact h
theorem APost.later {q : R (List D × Rw)} {Q : List V → Hp → Prop} (s : Gr K C.r H G H' G') (h : APost K W C l σ H G q Q) : APost K W C l σ H' G' q Q := by
  cases q with
  | ok p => exact fun v H2 G2 S' s' r => h v H2 G2 S' (s.trans s') r
  | exc x w => exact h
  | stuck => exact h
theorem OPost.later {q : R (D × Rw)} {Q : VK} (s : Gr K C.r H G H' G') (h : OPost K W C l σ H G q Q) : OPost K W C l σ H' G' q Q := by
  cases q with
  | ok p => exact fun v H2 G2 S' s' f r => h v H2 G2 S' (s.trans s') (by
      cases e : H v with
      | none => rfl
      | some o => obtain ⟨o', z⟩ := s.t _ _ e; rw [f] at z; cases z) r
  | exc x w => exact h
  | stuck => exact h
end
/-! ### new things -/
def ObjD (K : PySem.W.Frag) (r : Option Addr) (G : Hp) : D → HO → Prop
  | .lst ds, o => ∃ vs, o = .lst vs ∧ vs.length ≤ sizeLine ∧ Reps K r G ds vs
  | .dic ks ds, o => ∃ kvs vs, o = .dK kvs ∧ kvs.length ≤ sizeLine ∧ kvs.map (·.1) = ks.map Sum.inl ∧ kvs.map (·.2) = vs ∧ Reps K r G ds vs
  | .tup ds, o => ∃ vs, o = .tup vs ∧ vs.length ≤ sizeLine ∧ Reps K r G ds vs
  | _, _ => False
section
variable {K : PySem.W.Frag} {W : WD} {C : C0} {l : Dl} {rw : Rw} {σ : St} {H G H' G' : Hp} {d : D} {o : HO} {p : Addr} {v : V}
def isDic : D → Bool
  | .dic _ _ => true
  | _ => false
theorem ObjD.rep {r : Option Addr} (h : ObjD K r G d o) (hp : G p = none) (hn : isDic d = false := by rfl) : Rep K r (upd G p o) d (.ref p) := by
  have m : Same G (upd G p o) := fun a u e => by rw [upd_ne (ne_of_none e hp)]; exact e
  cases d with
  | lst ds => obtain ⟨vs, rfl, h1, h2⟩ := h; unfold Rep; exact ⟨p, vs, rfl, upd_same, h1, h2.mono m⟩
  | dic ks ds => cases hn
  | tup ds => obtain ⟨vs, rfl, h1, h2⟩ := h; unfold Rep; exact ⟨p, vs, rfl, SqT.of upd_same, h1, h2.mono m⟩
  | _ => exact h.elim
theorem SR.h0none (S : SR K C l rw σ H G) (hp : H p = none) : C.H0 p = none ∧ C.r ≠ some p := by
  have hr : C.r ≠ some p := fun e => by
    have w := S.row
    unfold RowOk at w
    rw [e] at w
    cases rw with
    | none => exact w.elim
    | some x => obtain ⟨_, v, h2, _⟩ := w; rw [hp] at h2; cases h2
  refine ⟨?_, hr⟩
  cases e : C.H0 p with
  | none => rfl
  | some u => obtain ⟨u', e'⟩ := S.ft p u e; rw [hp] at e'; cases e'
theorem SR.gnone (S : SR K C l rw σ H G) (hp : H p = none) : G p = none := by
  cases e : G p with
  | none => rfl
  | some u => have := S.sub p u e; rw [hp] at this; cases this
def isLD : D → Bool
  | .lst _ => true
  | .dic _ _ => true
  | _ => false
theorem SR.ownNew (S : SR K C l rw σ H G) (hp : H p = none) (h : ObjD K C.r G d o) (hd : isLD d = true) : Own K C (upd H p o) G d (.ref p) := by
  obtain ⟨h0, hr⟩ := S.h0none hp
  refine ⟨p, rfl, S.gnone hp, h0, hr, ?_⟩
  cases d with
  | lst ds => obtain ⟨vs, rfl, h1, h2⟩ := h; exact ⟨vs, upd_same, h1, h2⟩
  | dic ks ds => obtain ⟨kvs, vs, rfl, h1, h2, h3, h4⟩ := h; exact ⟨kvs, vs, upd_same, h1, h2, h3, h4⟩
  | _ => cases hd
/-- an own thing is shown from now on -/
theorem Own.obj (h : Own K C H G d (.ref p)) : ∃ o, H p = some o ∧ ObjD K C.r G d o ∧ G p = none ∧ C.H0 p = none ∧ C.r ≠ some p ∧ isLD d = true ∧ ∀ ob u, o ≠ .frz ob u := by
  obtain ⟨q, e, h1, h2, h3, h4⟩ := h
  cases e
  cases d with
  | lst ds => obtain ⟨vs, a1, a2, a3⟩ := h4; exact ⟨_, a1, ⟨vs, rfl, a2, a3⟩, h1, h2, h3, rfl, fun _ _ z => nomatch z⟩
  | dic ks ds => obtain ⟨kvs, vs, a1, a2, a3, a4, a5⟩ := h4; exact ⟨_, a1, ⟨kvs, vs, rfl, a2, a3, a4, a5⟩, h1, h2, h3, rfl, fun _ _ z => nomatch z⟩
  | _ => exact h4.elim
theorem Own.nt (h : Own K C H G d (.ref p)) (ho : H p = some o) : nTb o := by
  obtain ⟨q, e, h1, h2, h3, h4⟩ := h
  cases e
  cases d with
  | lst ds => obtain ⟨vs, a1, _⟩ := h4; rw [ho] at a1; cases a1; exact nTb_lst
  | dic ks ds => obtain ⟨kvs, vs, a1, _⟩ := h4; rw [ho] at a1; cases a1; exact nTb_dK
  | _ => exact h4.elim
theorem SR.freeze (S : SR K C l rw σ H G) (ho : H p = some o) (nt : nTb o) (hg : G p = none) (h0 : C.H0 p = none) (hr : C.r ≠ some p) (nx : ∀ (i : Nat) e, l[i]? = some (.own e) → σ[i]? ≠ some (some (.ref p))) : SR K C l rw σ H (upd G p o) := by
  have m : Same G (upd G p o) := fun a u e => by rw [upd_ne (ne_of_none e hg)]; exact e
  refine ⟨fun a u e => ?_, S.fr, S.ft, S.tabs, S.g0.trans m, fun a u e => ?_, fun a u e => ?_, S.len, fun i x e => ?_, S.ow, ?_⟩
  · by_cases h : a = p
    · subst h; rw [upd_same] at e; rw [ho]; exact e
    · rw [upd_ne h] at e; exact S.sub a u e
  · by_cases h : a = p
    · subst h; exact .inr h0
    · rw [upd_ne h] at e; exact S.gn a u e
  · by_cases h : a = p
    · subst h; rw [upd_same] at e; cases e; exact nt
    · rw [upd_ne h] at e; exact S.gt a u e
  · obtain ⟨v, e1, e2⟩ := S.sl i x e
    refine ⟨v, e1, ?_⟩
    cases x with
    | no => trivial
    | val d => obtain ⟨u, e3, q⟩ := e2; exact ⟨u, e3, q.mono m⟩
    | own d =>
      obtain ⟨u, e3, q, a1, a2, a3, a4, a5⟩ := e2
      subst e3 a1
      have ne : q ≠ p := fun z => nx i d e (by rw [e1, z])
      refine ⟨_, rfl, q, rfl, by rw [upd_ne ne]; exact a2, a3, a4, ?_⟩
      cases d with
      | lst ds => obtain ⟨vs, b1, b2, b3⟩ := a5; exact ⟨vs, b1, b2, b3.mono m⟩
      | dic ks ds => obtain ⟨kvs, vs, b1, b2, b3, b4, b5⟩ := a5; exact ⟨kvs, vs, b1, b2, b3, b4, b5.mono m⟩
      | _ => exact a5.elim
  · have w := S.row
    unfold RowOk at w ⊢
    cases e : C.r with
    | none => rw [e] at w; cases rw <;> exact w
    | some a =>
      rw [e] at w
      cases rw with
      | none => exact w
      | some x =>
        obtain ⟨w1, v, w2, w3⟩ := w
        have ne : a ≠ p := fun z => hr (by rw [e, z])
        exact ⟨by rw [upd_ne ne]; exact w1, v, w2, w3.mono m⟩
theorem SR.lock {od : Obj} (S : SR K C l rw σ H G) (ho : H p = some o) (hg : G p = none) (h0 : C.H0 p = none) (hr : C.r ≠ some p) (nx : ∀ (i : Nat) e, l[i]? = some (.own e) → σ[i]? ≠ some (some (.ref p))) (nt : ¬ TbX o) : SR K C l rw σ (upd H p (.frz od o)) (upd G p (.frz od o)) := by
  have m : Same G (upd G p (.frz od o)) := fun a u e => by rw [upd_ne (ne_of_none e hg)]; exact e
  refine ⟨fun a u e => ?_, fun a u e ne nt => ?_, fun a u e => ?_, (TabR.put fun u e => by rw [ho] at e; cases e; exact nt) S.tabs, S.g0.trans m, fun a u e => ?_, fun a u e => ?_, S.len, fun i x e => ?_, S.ow, ?_⟩
  · by_cases h : a = p
    · subst h; rw [upd_same] at e ⊢; exact e
    · rw [upd_ne h] at e ⊢; exact S.sub a u e
  · rw [upd_ne (ne_of_none e h0)]; exact S.fr a u e ne nt
  · by_cases h : a = p
    · subst h; exact ⟨_, upd_same⟩
    · rw [upd_ne h]; exact S.ft a u e
  · by_cases h : a = p
    · subst h; exact .inr h0
    · rw [upd_ne h] at e; exact S.gn a u e
  · by_cases h : a = p
    · subst h; rw [upd_same] at e; cases e; exact fun _ z => nomatch z
    · rw [upd_ne h] at e; exact S.gt a u e
  · obtain ⟨v, e1, e2⟩ := S.sl i x e
    refine ⟨v, e1, ?_⟩
    cases x with
    | no => trivial
    | val d => obtain ⟨u, e3, q⟩ := e2; exact ⟨u, e3, q.mono m⟩
    | own d =>
      obtain ⟨u, e3, q, a1, a2, a3, a4, a5⟩ := e2
      subst e3 a1
      have ne : q ≠ p := fun z => nx i d e (by rw [e1, z])
      refine ⟨_, rfl, q, rfl, by rw [upd_ne ne]; exact a2, a3, a4, ?_⟩
      cases d with
      | lst ds => obtain ⟨vs, b1, b2, b3⟩ := a5; exact ⟨vs, by rw [upd_ne ne]; exact b1, b2, b3.mono m⟩
      | dic ks ds => obtain ⟨kvs, vs, b1, b2, b3, b4, b5⟩ := a5; exact ⟨kvs, vs, by rw [upd_ne ne]; exact b1, b2, b3, b4, b5.mono m⟩
      | _ => exact a5.elim
  · have w := S.row
    unfold RowOk at w ⊢
    cases e : C.r with
    | none => rw [e] at w; cases rw <;> exact w
    | some a =>
      rw [e] at w
      cases rw with
      | none => exact w
      | some x =>
        obtain ⟨w1, v, w2, w3⟩ := w
        have ne : a ≠ p := fun z => hr (by rw [e, z])
        exact ⟨by rw [upd_ne ne]; exact w1, v, by rw [upd_ne ne]; exact w2, w3.mono m⟩
theorem Gr.lock {r : Option Addr} {H1 G1 : Hp} {od : Obj} (g : Gr K r H G H1 G1) (hp : H p = none) (ho : H1 p = some o) (hg : G1 p = none) (nt : ¬ TbX o) : Gr K r H G (upd H1 p (.frz od o)) (upd G1 p (.frz od o)) where
  h := fun a u e ne nt => by rw [upd_ne (ne_of_none e hp)]; exact g.h a u e ne nt
  g := g.g.trans fun a u e => by rw [upd_ne (ne_of_none e hg)]; exact e
  n := fun a u e => by
    by_cases h : a = p
    · subst h; rw [upd_same] at e; cases e; exact .inr ⟨hp, fun _ z => nomatch z⟩
    · rw [upd_ne h] at e; exact g.n a u e
  s := fun a u e => by
    by_cases h : a = p
    · subst h; rw [upd_same] at e ⊢; exact e
    · rw [upd_ne h] at e ⊢; exact g.s a u e
  t := fun a u e => by rw [upd_ne (ne_of_none e hp)]; exact g.t a u e
  tb := g.tb.trans (TabR.put fun u e => by rw [ho] at e; cases e; exact nt)
theorem ObjD.repK {r : Option Addr} {ks : List Int} {ds : List D} {od : Obj} (h : ObjD K r G (.dic ks ds) o) (hp : G p = none) : Rep K r (upd G p (.frz od o)) (.dic ks ds) (.ref p) := by
  have m : Same G (upd G p (.frz od o)) := fun a u e => by rw [upd_ne (ne_of_none e hp)]; exact e
  obtain ⟨kvs, vs, rfl, h1, h2, h3, h4⟩ := h
  unfold Rep
  exact ⟨p, od, kvs, vs, rfl, upd_same, h1, h2, h3, h4.mono m⟩
theorem nTE_lst {xs : List V} : ¬ TbX (.lst xs) := fun h => h.elim (fun ⟨_, z⟩ => nomatch z) fun ⟨_, z⟩ => nomatch z
theorem nTE_dK {xs : List (Key × V)} : ¬ TbX (.dK xs) := fun h => h.elim (fun ⟨_, z⟩ => nomatch z) fun ⟨_, z⟩ => nomatch z
/-- a tracked thing may be locked for good -/
def tMayLock (t : TE) : TE := fun σ H Q => t σ H fun v H' => Q v H' ∨ ∃ p u, v = .ref p ∧ H' p = some u ∧ Mut (some u) ∧ ∀ od, Q v (upd H' p (.frz od u))
theorem pe_mayLock {X : Cx} {e : Expr} {t : TE} (h : PE X e t) : PE X e (tMayLock t) := by
  refine ⟨fun pins s σ H Q I hq => ?_⟩
  refine thn (h.run pins s σ H _ I hq) fun v s1 ⟨x, H1, I1, r, q⟩ => ?_
  rcases q with q | ⟨p, u, e, hu, mu, q⟩
  · exact ⟨x, H1, I1, r, q⟩
  · obtain ⟨od, I2⟩ := I1.lock hu mu
    exact ⟨x, _, I2, r, q od⟩
/-- .. ahead of a block -/
def tLocked (t : TS) : TS := fun E σ H => t E σ H ∨ ∃ p u, H p = some u ∧ Mut (some u) ∧ ∀ od, t E σ (upd H p (.frz od u))
theorem pss_locked {X : Cx} {e : List Stmt} {t : TS} (h : PSs X e t) : PSs X e (tLocked t) := by
  refine ⟨fun pins s σ H E I hq => ?_⟩
  rcases hq with q | ⟨p, u, hu, mu, q⟩
  · exact h.run pins s σ H E I q
  · obtain ⟨od, I2⟩ := I.lock hu mu
    exact h.run pins s σ _ E I2 (q od)
end
end HD
end
section
/-! Rules of the data layer: expressions. -/
namespace HD
open PySem PySem.Spec L2
open PyProof.Rows hiding St

def ofO {α : Type} (o : Option α) (rw : Rw) : R (α × Rw) := match o with
  | some a => .ok (a, rw)
  | none => .stuck
def eBin (f : D → D → Option D) (g1 g2 : EM D) : EM D := fun l rw => (g1 l rw).bind fun p => (g2 l p.2).bind fun q => ofO (f p.1 q.1) q.2
def eUn (f : D → Option D) (g : EM D) : EM D := fun l rw => (g l rw).bind fun p => ofO (f p.1) p.2
def aNil : EM (List D) := fun _ rw => .ok ([], rw)
def aCons (g : EM D) (r : EM (List D)) : EM (List D) := fun l rw => (g l rw).bind fun p => (r l p.2).bind fun q => .ok (p.1 :: q.1, q.2)
def eArgs (f : List D → Option D) (g : EM (List D)) : EM D := fun l rw => (g l rw).bind fun p => ofO (f p.1) p.2
def eK (d : D) : EM D := fun _ rw => .ok (d, rw)
def eV (i : Nat) : EM D := fun l rw => match l[i]? with
  | some (.val d) => .ok (d, rw)
  | _ => .stuck
def toB (g : EM D) : EM Bool := fun l rw => (g l rw).bind fun p => match p.1 with
  | .bl b => .ok (b, p.2)
  | _ => .stuck
def eIf (c : EM Bool) (a b : EM D) : EM D := fun l rw => (c l rw).bind fun p => if p.1 = true then a l p.2 else b l p.2
def tAnd' (a b : EM Bool) : EM Bool := fun l rw => (a l rw).bind fun p => if p.1 = true then b l p.2 else .ok (false, p.2)
def tOr' (a b : EM Bool) : EM Bool := fun l rw => (a l rw).bind fun p => if p.1 = true then .ok (true, p.2) else b l p.2
def tNot' (a : EM Bool) : EM Bool := fun l rw => (a l rw).bind fun p => .ok (!p.1, p.2)
def vAnd (a b : EM D) : EM D := fun l rw => (a l rw).bind fun p => match p.1 with
  | .bl true => b l p.2
  | .bl false => .ok (.bl false, p.2)
  | _ => .stuck
def vOr (a b : EM D) : EM D := fun l rw => (a l rw).bind fun p => match p.1 with
  | .bl true => .ok (.bl true, p.2)
  | .bl false => b l p.2
  | _ => .stuck
def vNot (a : EM D) : EM D := fun l rw => (a l rw).bind fun p => match p.1 with
  | .bl b => .ok (.bl (!b), p.2)
  | _ => .stuck
/-- a < b < c -/
def eChain (f f' : D → D → Option D) (ga gb gc : EM D) : EM D := fun l rw => (ga l rw).bind fun p => (gb l p.2).bind fun q => match f p.1 q.1 with
  | some (.bl true) => (gc l q.2).bind fun t => ofO (f' q.1 t.1) t.2
  | some (.bl false) => .ok (.bl false, q.2)
  | _ => .stuck
def isNonD : D → Option D
  | .raw _ => none
  | .non => some (.bl true)
  | _ => some (.bl false)
def notNonD : D → Option D
  | .raw _ => none
  | .non => some (.bl false)
  | _ => some (.bl true)

/-! ### one thing, then the rest -/
section
variable {K : PySem.W.Frag} {W : WD} {C : C0} {l : Dl} {rw : Rw} {σ : St} {H G : Hp} {β : Type}
theorem seqD {g : EM D} {k : D × Rw → R β} {P : R β → Prop} {Q' : VK} (S : SR K C l rw σ H G) (hp : P ((g l rw).bind k)) (hx : ∀ x w, P (.exc x w) → ∀ H' G', SR K C l w σ H' G' → W x σ H') (hs : P .stuck → False)
    (f : ∀ d rw' v H' G', SR K C l rw' σ H' G' → Gr K C.r H G H' G' → Rep K C.r G' d v → P (k (d, rw')) → Q' v H') : tD K W g σ H Q' := by
  refine ⟨C, l, rw, G, S, ?_⟩
  cases e1 : g l rw with
  | exc x w => rw [e1] at hp; exact hx x w hp
  | stuck => rw [e1] at hp; exact (hs hp).elim
  | ok p =>
    obtain ⟨d, rw'⟩ := p
    rw [e1] at hp
    exact fun v H' G' S' s r => f d rw' v H' G' S' s r hp
theorem seqO {g : EM D} {k : D × Rw → R β} {P : R β → Prop} {Q' : VK} (S : SR K C l rw σ H G) (hp : P ((g l rw).bind k)) (hx : ∀ x w, P (.exc x w) → ∀ H' G', SR K C l w σ H' G' → W x σ H') (hs : P .stuck → False)
    (f : ∀ d rw' p H' G', SR K C l rw' σ H' G' → Gr K C.r H G H' G' → H p = none → Own K C H' G' d (.ref p) → P (k (d, rw')) → Q' (.ref p) H') : tO K W g σ H Q' := by
  refine ⟨C, l, rw, G, S, ?_⟩
  cases e1 : g l rw with
  | exc x w => rw [e1] at hp; exact hx x w hp
  | stuck => rw [e1] at hp; exact (hs hp).elim
  | ok p =>
    obtain ⟨d, rw'⟩ := p
    rw [e1] at hp
    exact fun p H' G' S' s f0 r => f d rw' p H' G' S' s f0 r hp
theorem seqT {g : EM Bool} {k : Bool × Rw → R β} {P : R β → Prop} {Q' : Bool → Hp → Prop} (S : SR K C l rw σ H G) (hp : P ((g l rw).bind k)) (hx : ∀ x w, P (.exc x w) → ∀ H' G', SR K C l w σ H' G' → W x σ H') (hs : P .stuck → False)
    (f : ∀ b rw' H' G', SR K C l rw' σ H' G' → Gr K C.r H G H' G' → P (k (b, rw')) → Q' b H') : tT K W g σ H Q' := by
  refine ⟨C, l, rw, G, S, ?_⟩
  cases e1 : g l rw with
  | exc x w => rw [e1] at hp; exact hx x w hp
  | stuck => rw [e1] at hp; exact (hs hp).elim
  | ok p =>
    obtain ⟨d, rw'⟩ := p
    rw [e1] at hp
    exact fun H' G' S' s => f d rw' H' G' S' s hp
theorem seqA {g : EM (List D)} {k : List D × Rw → R β} {P : R β → Prop} {Q' : List V → Hp → Prop} (S : SR K C l rw σ H G) (hp : P ((g l rw).bind k)) (hx : ∀ x w, P (.exc x w) → ∀ H' G', SR K C l w σ H' G' → W x σ H') (hs : P .stuck → False)
    (f : ∀ ds rw' vs H' G', SR K C l rw' σ H' G' → Gr K C.r H G H' G' → Reps K C.r G' ds vs → P (k (ds, rw')) → Q' vs H') : tA K W g σ H Q' := by
  refine ⟨C, l, rw, G, S, ?_⟩
  cases e1 : g l rw with
  | exc x w => rw [e1] at hp; exact hx x w hp
  | stuck => rw [e1] at hp; exact (hs hp).elim
  | ok p =>
    obtain ⟨d, rw'⟩ := p
    rw [e1] at hp
    exact fun vs H' G' S' s r => f d rw' vs H' G' S' s r hp
end
abbrev PEq (K : PySem.W.Frag) (W : WD) (C : C0) (l : Dl) (σ : St) (H G : Hp) (Q : VK) : R (D × Rw) → Prop := fun q => EPost K W C l σ H G q Q
abbrev PTq (K : PySem.W.Frag) (W : WD) (C : C0) (l : Dl) (σ : St) (H G : Hp) (Q : Bool → Hp → Prop) : R (Bool × Rw) → Prop := fun q => TPost K W C l σ H G q Q
abbrev PAq (K : PySem.W.Frag) (W : WD) (C : C0) (l : Dl) (σ : St) (H G : Hp) (Q : List V → Hp → Prop) : R (List D × Rw) → Prop := fun q => APost K W C l σ H G q Q
abbrev POq (K : PySem.W.Frag) (W : WD) (C : C0) (l : Dl) (σ : St) (H G : Hp) (Q : VK) : R (D × Rw) → Prop := fun q => OPost K W C l σ H G q Q
abbrev PSq (K : PySem.W.Frag) (W : WD) (own : Bool) (C : C0) (E : Ends) : R (Fl × Dl × Rw) → Prop := fun q => SPost K W own C q E

section
variable {X : Cx} {W : WD}

/-! ### values of two values: what an operator's rule gives -/
def OpD (K : PySem.W.Frag) (r : R2) (f : D → D → Option D) : Prop := ∀ (o : Option Addr) (G H : Hp) (d1 d2 : D) (v1 v2 : V) (d : D) (Q : VK), Same G H → Rep K o G d1 v1 → Rep K o G d2 v2 → f d1 d2 = some d →
  (∀ v H' G', Same H H' → Gr K o H G H' G' → Rep K o G' d v → Q v H') → r v1 v2 H Q
/-- .. that lays nothing -/
def CmpD (K : PySem.W.Frag) (r : R2) (f : D → D → Option D) : Prop := ∀ (o : Option Addr) (G H : Hp) (d1 d2 : D) (v1 v2 : V) (d : D) (Q : VK), Same G H → Rep K o G d1 v1 → Rep K o G d2 v2 → f d1 d2 = some d →
  (∀ v, Rep K o G d v → Q v H) → r v1 v2 H Q
theorem CmpD.op {K : PySem.W.Frag} {r : R2} {f : D → D → Option D} (h : CmpD K r f) : OpD K r f := fun o G H d1 d2 v1 v2 d Q s r1 r2 e q => h o G H d1 d2 v1 v2 d Q s r1 r2 e fun v rv => q v H G (Same.refl _) (Gr.refl s) rv
def UnD (K : PySem.W.Frag) (r : V → Hp → VK → Prop) (f : D → Option D) : Prop := ∀ (o : Option Addr) (G H : Hp) (d1 : D) (v1 : V) (d : D) (Q : VK), Same G H → Rep K o G d1 v1 → f d1 = some d →
  (∀ v H' G', Same H H' → Gr K o H G H' G' → Rep K o G' d v → Q v H') → r v1 H Q
def ArD (K : PySem.W.Frag) (r : List V → Hp → VK → Prop) (f : List D → Option D) : Prop := ∀ (o : Option Addr) (G H : Hp) (ds : List D) (vs : List V) (d : D) (Q : VK), Same G H → Reps K o G ds vs → f ds = some d →
  (∀ v H' G', Same H H' → Gr K o H G H' G' → Rep K o G' d v → Q v H') → r vs H Q
/-- a built-in that lays a new list (or dict) -/
def ArN (K : PySem.W.Frag) (r : List V → Hp → VK → Prop) (f : List D → Option D) : Prop := ∀ (o : Option Addr) (G H : Hp) (ds : List D) (vs : List V) (d : D) (Q : VK), Same G H → Reps K o G ds vs → f ds = some d →
  isLD d = true ∧ ((∀ p H1 ob, Same H H1 → H1 p = none → ObjD K o G d ob → Q (.ref p) (upd H1 p ob)) → r vs H Q)

theorem red2 {r : R2} {f : D → D → Option D} {ga gb : EM D} (h : OpD X.K r f) : ∀ σ H Q, tD X.K W (eBin f ga gb) σ H Q → tOp r (tD X.K W ga) (tD X.K W gb) σ H Q := by
  intro σ H Q hq
  obtain ⟨C, l, rw, G, S, hp⟩ := hq
  refine seqD (P := PEq X.K W C l σ H G Q) S hp (fun _ _ z => z) (fun z => z) fun d1 rw1 v1 H1 G1 S1 s1 r1 h1 => ?_
  refine seqD (P := PEq X.K W C l σ H G Q) S1 h1 (fun _ _ z => z) (fun z => z) fun d2 rw2 v2 H2 G2 S2 s2 r2 h2 => ?_
  dsimp only [PEq] at h2
  cases e3 : f d1 d2 with
  | none => rw [e3] at h2; exact h2.elim
  | some d =>
    rw [e3] at h2
    exact h C.r G2 H2 d1 d2 v1 v2 d Q S2.sub (r1.mono s2.g) r2 e3 fun v H' G' sh g r => h2 v H' G' (S2.grow0 sh g) ((s1.trans s2).trans g) r
theorem de_op {op : Operator} {r : R2} {f : D → D → Option D} {a b : Expr} {ga gb : EM D} {pos : Pos} (ho : OpR X (binaryOp op) r) (h : OpD X.K r f) (ha : DE X W a ga) (hb : DE X W b gb) : DE X W (.BinOp a op b pos) (eBin f ga gb) := pe_imp (pe_op ho ha hb) (red2 h)
theorem de_cmp {op : CmpOp} {r : R2} {f : D → D → Option D} {a b : Expr} {ga gb : EM D} {pos : Pos} (ho : OpR X (compareOp op) r) (h : OpD X.K r f) (ha : DE X W a ga) (hb : DE X W b gb) (hm : behindInMarks op b = false) : DE X W (.Compare a [op] [b] pos) (eBin f ga gb) := pe_imp (pe_cmpR ho ha hb hm) (red2 h)
theorem de_ix {r : R2} {f : D → D → Option D} {a b : Expr} {ga gb : EM D} {pos : Pos} (ho : IxR X r) (h : OpD X.K r f) (ha : DE X W a ga) (hb : DE X W b gb) (hs : PlainIx b) : DE X W (.Subscript a b pos) (eBin f ga gb) := pe_imp (pe_ix ho ha hb hs) (red2 h)
theorem de_un {op : UnaryOp} {r : V → Hp → VK → Prop} {f : D → Option D} {a : Expr} {g : EM D} {pos : Pos} (ho : UnR X (unaryOp op) r) (h : UnD X.K r f) (ha : DE X W a g) : DE X W (.UnaryOp op a pos) (eUn f g) := by
  refine pe_imp (pe_un ho ha) fun σ H Q hq => ?_
  obtain ⟨C, l, rw, G, S, hp⟩ := hq
  refine seqD (P := PEq X.K W C l σ H G Q) S hp (fun _ _ z => z) (fun z => z) fun d1 rw1 v1 H1 G1 S1 s1 r1 h1 => ?_
  dsimp only [PEq] at h1
  cases e3 : f d1 with
  | none => rw [e3] at h1; exact h1.elim
  | some d =>
    rw [e3] at h1
    exact h C.r G1 H1 d1 v1 d Q S1.sub r1 e3 fun v H' G' sh g r => h1 v H' G' (S1.grow0 sh g) (s1.trans g) r

/-! ### names, constants -/
theorem de_var {i : Nat} {x : Str} {pos : Pos} (h : PE X (.Name x pos) (tVar i)) : DE X W (.Name x pos) (eV i) := by
  refine pe_imp h fun σ H Q hq => ?_
  obtain ⟨C, l, rw, G, S, hp⟩ := hq
  unfold eV at hp
  cases e : l[i]? with
  | none => rw [e] at hp; exact hp.elim
  | some x =>
    rw [e] at hp
    cases x with
    | no => exact hp.elim
    | own d => exact hp.elim
    | val d =>
      obtain ⟨v, e1, u, e2, r⟩ := S.sl i _ e
      subst e2
      exact ⟨u, e1, hp u H G S (Gr.refl S.sub) r⟩
theorem de_k {e : Expr} {v : V} {d : D} (h : PE X e (tC v)) (r : ∀ o G, Rep X.K o G d v) : DE X W e (eK d) := by
  refine pe_imp h fun σ H Q hq => ?_
  obtain ⟨C, l, rw, G, S, hp⟩ := hq
  exact hp v H G S (Gr.refl S.sub) (r _ _)
theorem de_int {i j pos} : DE X W (.Constant (.int i) j pos) (eK (.int i)) := de_k pe_int fun _ _ => by unfold Rep; rfl
theorem de_bl {b j pos} : DE X W (.Constant (.bool b) j pos) (eK (.bl b)) := de_k pe_bl fun _ _ => by unfold Rep; rfl
theorem de_non {j pos} : DE X W (.Constant .none j pos) (eK .non) := de_k pe_non fun _ _ => by unfold Rep; rfl
theorem de_str {x j pos} : DE X W (.Constant (.str x) j pos) (eK (.str x)) := de_k pe_str fun _ _ => by unfold Rep; rfl
/-- a module's constant: a number -/
theorem de_gint {x : Str} {i : Int} {pos : Pos} (hg : Gl X x) (hm : ∃ t, X.mg x = some (.int i t)) (hd : (x == ("__debug__" : Str)) = false := by decide) : DE X W (.Name x pos) (eK (.int i)) := by
  obtain ⟨t, hm⟩ := hm
  exact de_k (v := .int i) (pe_glob hg hm ⟨t, rfl⟩ hd) fun _ _ => by unfold Rep; rfl
theorem de_gstr {x z : Str} {pos : Pos} (hg : Gl X x) (hm : ∃ t, X.mg x = some (.str z t)) (hd : (x == ("__debug__" : Str)) = false := by decide) : DE X W (.Name x pos) (eK (.str z)) := by
  obtain ⟨t, hm⟩ := hm
  exact de_k (v := .str z) (pe_glob hg hm ⟨t, rfl⟩ hd) fun _ _ => by unfold Rep; rfl
theorem de_gref {x : Str} {a : Addr} {d : D} {pos : Pos} (hg : Gl X x) (hm : X.mg x = some (.ref a)) (r : ∀ o G, Rep X.K o G d (.ref a)) (hd : (x == ("__debug__" : Str)) = false := by decide) : DE X W (.Name x pos) (eK d) :=
  de_k (v := .ref a) (pe_glob hg hm rfl hd) r
theorem de_gty {x : Str} {n : String} {pos : Pos} (hg : Gl X x) (hm : X.mg x = none) (hv : bootBuiltins x = some (.type n)) (hn : x ≠ "__name__" := by decide) (hd : (x == ("__debug__" : Str)) = false := by decide) : DE X W (.Name x pos) (eK (.raw (.ty n))) :=
  de_k (v := .ty n) (pe_bltn hg hm hv rfl hn hd) fun _ _ => by unfold Rep; rfl

/-! ### argument lists, displays -/
theorem da_nil : DA X W [] aNil := by
  refine pa_imp pa_nil fun σ H Q hq => ?_
  obtain ⟨C, l, rw, G, S, hp⟩ := hq
  exact hp [] H G S (Gr.refl S.sub) Reps.nil
theorem da_cons {e : Expr} {es : List Expr} {g : EM D} {r : EM (List D)} (ha : DE X W e g) (hr : DA X W es r) (hs : starEach (e :: es) X.env = (false, eval e X.env) :: starEach es X.env := by rfl) : DA X W (e :: es) (aCons g r) := by
  refine pa_imp (pa_cons ha hr hs) fun σ H Q hq => ?_
  obtain ⟨C, l, rw, G, S, hp⟩ := hq
  refine seqD (P := PAq X.K W C l σ H G Q) S hp (fun _ _ z => z) (fun z => z) fun d1 rw1 v1 H1 G1 S1 s1 r1 h1 => ?_
  refine seqA (P := PAq X.K W C l σ H G Q) S1 h1 (fun _ _ z => z) (fun z => z) fun ds rw2 vs H2 G2 S2 s2 r2 h2 => ?_
  exact h2 (v1 :: vs) H2 G2 S2 (s1.trans s2) (Reps.cons (r1.mono s2.g) r2)
/-- (a, b, ..) -/
def eTup (g : EM (List D)) : EM D := eArgs (fun ds => if ds.length ≤ sizeLine then some (.tup ds) else none) g
theorem de_tup {es : List Expr} {k : Nat} {g : EM (List D)} {pos : Pos} (h : DA X W es g) : DE X W (.Tuple es k pos) (eTup g) := by
  refine pe_imp (pe_tup h) fun σ H Q hq => ?_
  obtain ⟨C, l, rw, G, S, hp⟩ := hq
  refine seqA (P := PEq X.K W C l σ H G Q) S hp (fun _ _ z => z) (fun z => z) fun ds rw1 vs H1 G1 S1 s1 r1 h1 => ?_
  dsimp only [PEq] at h1
  have hl := r1.length
  by_cases hz : ds.length ≤ sizeLine
  · rw [if_pos hz] at h1
    refine ⟨by rw [← hl]; exact hz, fun p hp' => ?_⟩
    exact h1 (.ref p) _ _ (S1.new hp') (s1.trans (Gr.new S1.sub hp')) (ObjD.rep ⟨vs, rfl, by rw [← hl]; exact hz, r1⟩ (S1.gnone hp'))
  · rw [if_neg hz] at h1; exact h1.elim
/-- [a, b, ..], a new list -/
def eLst (g : EM (List D)) : EM D := eArgs (fun ds => if ds.length ≤ sizeLine then some (.lst ds) else none) g
theorem do_lst {es : List Expr} {g : EM (List D)} {pos : Pos} (h : DA X W es g) : DO X W (.List es pos) (eLst g) := by
  refine pe_imp (pe_lst h) fun σ H Q hq => ?_
  obtain ⟨C, l, rw, G, S, hp⟩ := hq
  refine seqA (P := POq X.K W C l σ H G Q) S hp (fun _ _ z => z) (fun z => z) fun ds rw1 vs H1 G1 S1 s1 r1 h1 => ?_
  dsimp only [POq] at h1
  have hl := r1.length
  by_cases hz : ds.length ≤ sizeLine
  · rw [if_pos hz] at h1
    refine ⟨by rw [← hl]; exact hz, fun p hp' => ?_⟩
    refine h1 p _ _ (S1.newO hp') (s1.trans (Gr.newO S1.sub hp')) ?_ (S1.ownNew hp' ⟨vs, rfl, by rw [← hl]; exact hz, r1⟩ rfl)
    cases e : H p with
    | none => rfl
    | some o => obtain ⟨o', z⟩ := s1.t _ _ e; rw [hp'] at z; cases z
  · rw [if_neg hz] at h1; exact h1.elim
/-- a new thing, shown at once: a list as it is, a dict locked from now on -/
theorem redFrzL {K : PySem.W.Frag} {C : C0} {l : Dl} {rw : Rw} {σ : St} {H G H' G' : Hp} {d : D} {p : Addr} (hd : isDic d = false) (S0 : SR K C l rw σ H G) {rw' : Rw} (S' : SR K C l rw' σ H' G') (s : Gr K C.r H G H' G') (f : H p = none) (ow : Own K C H' G' d (.ref p)) :
    ∃ G2, SR K C l rw' σ H' G2 ∧ Gr K C.r H G H' G2 ∧ Rep K C.r G2 d (.ref p) := by
  obtain ⟨o, ho, hob, hg, h0, hr, _, _⟩ := ow.obj
  have nx : ∀ (i : Nat) e, l[i]? = some (.own e) → σ[i]? ≠ some (some (.ref p)) := fun i e hi hz => by
    obtain ⟨v, e1, u, e2, q, e3, a1, a2, a3, a4⟩ := S0.sl i _ hi
    subst e2 e3
    rw [hz] at e1
    cases e1
    cases e with
    | lst ds => obtain ⟨vs, b, _⟩ := a4; rw [f] at b; cases b
    | dic ks ds => obtain ⟨kvs, vs, b, _⟩ := a4; rw [f] at b; cases b
    | _ => exact a4.elim
  have m : Same G' (upd G' p o) := fun a u e => by rw [upd_ne (ne_of_none e hg)]; exact e
  have nt : nTb o := ow.nt ho
  refine ⟨_, S'.freeze ho nt hg h0 hr nx, ⟨s.h, s.g.trans m, fun a u e => ?_, fun a u e => ?_, s.t, s.tb⟩, hob.rep hg hd⟩
  · by_cases ha : a = p
    · subst ha; rw [upd_same] at e; cases e; exact .inr ⟨f, nt⟩
    · rw [upd_ne ha] at e; exact s.n a u e
  · by_cases ha : a = p
    · subst ha; rw [upd_same] at e; rw [ho]; exact e
    · rw [upd_ne ha] at e; exact s.s a u e
theorem de_of {e : Expr} {g : EM D} (h : DO X W e g) : DE X W e g := by
  refine pe_imp (pe_mayLock h) fun σ H Q hq => ?_
  obtain ⟨C, l, rw, G, S, hp⟩ := hq
  refine ⟨C, l, rw, G, S, ?_⟩
  cases e1 : g l rw with
  | exc x w => rw [e1] at hp; exact hp
  | stuck => rw [e1] at hp; exact hp
  | ok p =>
    obtain ⟨d, rw'⟩ := p
    rw [e1] at hp
    intro p H' G' S' s f ow
    by_cases hd : isDic d = false
    · obtain ⟨G2, S2, g2, r2⟩ := redFrzL hd S S' s f ow
      exact .inl (hp (.ref p) H' G2 S2 g2 r2)
    · have hd : isDic d = true := by
        cases q : isDic d with
        | true => rfl
        | false => exact absurd q hd
      obtain ⟨o, ho, hob, hg, h0, hr, _, _⟩ := ow.obj
      have nx : ∀ (i : Nat) e, l[i]? = some (.own e) → σ[i]? ≠ some (some (.ref p)) := fun i e hi hz => by
        obtain ⟨v, e1, u, e2, q, e3, a1, a2, a3, a4⟩ := S.sl i _ hi
        subst e2 e3
        rw [hz] at e1
        cases e1
        cases e with
        | lst ds => obtain ⟨vs, b, _⟩ := a4; rw [f] at b; cases b
        | dic ks ds => obtain ⟨kvs, vs, b, _⟩ := a4; rw [f] at b; cases b
        | _ => exact a4.elim
      cases d with
      | dic ks ds =>
        obtain ⟨kvs, vs, eo, _⟩ := id hob
        subst eo
        exact .inr ⟨p, _, rfl, ho, trivial, fun od => hp (.ref p) _ _ (S'.lock ho hg h0 hr nx nTE_dK) (Gr.lock s f ho hg nTE_dK) (hob.repK hg)⟩
      | _ => cases hd

/-! ### a built-in called -/
theorem redA {r : List V → Hp → VK → Prop} {f : List D → Option D} {g : EM (List D)} (h : ArD X.K r f) : ∀ σ H Q, tD X.K W (eArgs f g) σ H Q → tCB r (tA X.K W g) σ H Q := by
  intro σ H Q hq
  obtain ⟨C, l, rw, G, S, hp⟩ := hq
  refine seqA (P := PEq X.K W C l σ H G Q) S hp (fun _ _ z => z) (fun z => z) fun ds rw1 vs H1 G1 S1 s1 r1 h1 => ?_
  dsimp only [PEq] at h1
  cases e3 : f ds with
  | none => rw [e3] at h1; exact h1.elim
  | some d =>
    rw [e3] at h1
    exact h C.r G1 H1 ds vs d Q S1.sub r1 e3 fun v H' G' sh g r => h1 v H' G' (S1.grow0 sh g) (s1.trans g) r
theorem redN {r : List V → Hp → VK → Prop} {f : List D → Option D} {g : EM (List D)} (h : ArN X.K r f) : ∀ σ H Q, tO X.K W (eArgs f g) σ H Q → tCB r (tA X.K W g) σ H Q := by
  intro σ H Q hq
  obtain ⟨C, l, rw, G, S, hp⟩ := hq
  refine seqA (P := POq X.K W C l σ H G Q) S hp (fun _ _ z => z) (fun z => z) fun ds rw1 vs H1 G1 S1 s1 r1 h1 => ?_
  dsimp only [POq] at h1
  cases e3 : f ds with
  | none => rw [e3] at h1; exact h1.elim
  | some d =>
    rw [e3] at h1
    obtain ⟨hd, k⟩ := h C.r G1 H1 ds vs d Q S1.sub r1 e3
    refine k fun p H2 ob sh hp' hob => ?_
    have g2 : Gr X.K C.r H1 G1 H2 G1 := Gr.same S1.sub sh
    have S2 := S1.grow0 sh g2
    refine h1 p _ _ (S2.newO hp') ((s1.trans g2).trans (Gr.newO S2.sub hp')) ?_ (S2.ownNew hp' hob hd)
    cases e : H p with
    | none => rfl
    | some o => obtain ⟨o', z⟩ := (s1.trans g2).t _ _ e; rw [hp'] at z; cases z
section
variable {x : Str} {p pos : Pos} {e : Expr} {es : List Expr} {id T : String} {r : List V → Hp → VK → Prop} {f : List D → Option D} {g : EM (List D)}
theorem de_bi (hc : CallR X (.builtin id) r) (h : ArD X.K r f) (hg : Gl X x) (hm : X.mg x = none) (hv : bootBuiltins x = some (.builtin id)) (ha : DA X W (e :: es) g)
    (hn : x ≠ "__name__" := by decide) (hdb : (x == ("__debug__" : Str)) = false := by decide) (he : starEach (e :: es) X.env = (false, eval e X.env) :: starEach es X.env := by rfl) (hpl : (backTo pos (starEach es X.env)).any (·.1) = false := by rfl) :
    DE X W (.Call (.Name x p) (e :: es) [] pos) (eArgs f g) := pe_imp (pe_callB hc hg hm hv ha hn hdb he hpl) (redA h)
theorem de_bt (hc : CallR X (.type T) r) (h : ArD X.K r f) (hg : Gl X x) (hm : X.mg x = none) (hv : bootBuiltins x = some (.type T)) (ha : DA X W (e :: es) g)
    (hn : x ≠ "__name__" := by decide) (hdb : (x == ("__debug__" : Str)) = false := by decide) (he : starEach (e :: es) X.env = (false, eval e X.env) :: starEach es X.env := by rfl) (hpl : (backTo pos (starEach es X.env)).any (·.1) = false := by rfl) :
    DE X W (.Call (.Name x p) (e :: es) [] pos) (eArgs f g) := pe_imp (pe_callTy hc hg hm hv ha hn hdb he hpl) (redA h)
theorem do_bi (hc : CallR X (.builtin id) r) (h : ArN X.K r f) (hg : Gl X x) (hm : X.mg x = none) (hv : bootBuiltins x = some (.builtin id)) (ha : DA X W (e :: es) g)
    (hn : x ≠ "__name__" := by decide) (hdb : (x == ("__debug__" : Str)) = false := by decide) (he : starEach (e :: es) X.env = (false, eval e X.env) :: starEach es X.env := by rfl) (hpl : (backTo pos (starEach es X.env)).any (·.1) = false := by rfl) :
    DO X W (.Call (.Name x p) (e :: es) [] pos) (eArgs f g) := pe_imp (pe_callB hc hg hm hv ha hn hdb he hpl) (redN h)
theorem do_bt (hc : CallR X (.type T) r) (h : ArN X.K r f) (hg : Gl X x) (hm : X.mg x = none) (hv : bootBuiltins x = some (.type T)) (ha : DA X W (e :: es) g)
    (hn : x ≠ "__name__" := by decide) (hdb : (x == ("__debug__" : Str)) = false := by decide) (he : starEach (e :: es) X.env = (false, eval e X.env) :: starEach es X.env := by rfl) (hpl : (backTo pos (starEach es X.env)).any (·.1) = false := by rfl) :
    DO X W (.Call (.Name x p) (e :: es) [] pos) (eArgs f g) := pe_imp (pe_callTy hc hg hm hv ha hn hdb he hpl) (redN h)
end

/-! ### tests -/
theorem redB {g : EM D} : ∀ σ H Q, tT X.K W (toB g) σ H Q → tB (tD X.K W g) σ H Q := by
  intro σ H Q hq
  obtain ⟨C, l, rw, G, S, hp⟩ := hq
  refine seqD (P := PTq X.K W C l σ H G Q) S hp (fun _ _ z => z) (fun z => z) fun d rw1 v H1 G1 S1 s1 r1 h1 => ?_
  cases d with
  | bl b =>
    unfold Rep at r1
    exact ⟨b, r1, h1 H1 G1 S1 s1⟩
  | _ => exact h1.elim
theorem dt_of {e : Expr} {g : EM D} (h : DE X W e g) (he : ∀ whole, isTrue e X.env whole = (do let v ← whole; standAt e.pos; holding [v] (truthy v)) := by intro _; rfl) : DT X W e (toB g) := pt_imp (pt_val h he) redB
theorem dt_op {op : CmpOp} {r : R2} {f : D → D → Option D} {a b : Expr} {ga gb : EM D} {pos : Pos} (ho : OpR X (compareOp op) r) (h : OpD X.K r f) (ha : DE X W a ga) (hb : DE X W b gb) (hm : behindInMarks op b = false) : DT X W (.Compare a [op] [b] pos) (toB (eBin f ga gb)) := by
  refine pt_imp (pt_cmpR ho ha hb hm) fun σ H Q hq => ?_
  have h1 := redB σ H Q hq
  exact red2 h σ H _ h1
theorem dt_pc {op : CmpOp} {a b : Expr} {g : EM D} {t : TE} {pos : Pos} (h : PC X op a b t) (i : ∀ σ H Q, tD X.K W g σ H Q → t σ H Q) (h1 : behindInMarks op b = false := by first | exact nobehind _ (by decide) (by decide) | rfl) : DT X W (.Compare a [op] [b] pos) (toB g) := by
  refine pt_imp (pt_cmp h h1) fun σ H Q hq => ?_
  exact i _ _ _ (redB σ H Q hq)
theorem redC {r r' : R2} {f f' : D → D → Option D} {ga gb gc : EM D} (hf : CmpD X.K r f) (hf' : OpD X.K r' f') : ∀ σ H Q, tD X.K W (eChain f f' ga gb gc) σ H Q → tChain r r' (tD X.K W ga) (tD X.K W gb) (tD X.K W gc) σ H Q := by
  intro σ H Q hq
  obtain ⟨C, l, rw, G, S, hp⟩ := hq
  refine seqD (P := PEq X.K W C l σ H G Q) S hp (fun _ _ z => z) (fun z => z) fun d1 rw1 v1 H1 G1 S1 s1 r1 h1 => ?_
  refine seqD (P := PEq X.K W C l σ H G Q) S1 h1 (fun _ _ z => z) (fun z => z) fun d2 rw2 v2 H2 G2 S2 s2 r2 h2 => ?_
  dsimp only [PEq] at h2
  cases e : f d1 d2 with
  | none => rw [e] at h2; exact h2.elim
  | some d =>
    rw [e] at h2
    refine hf C.r G2 H2 d1 d2 v1 v2 d _ S2.sub (r1.mono s2.g) r2 e fun v rv => ?_
    cases d with
    | bl k =>
      unfold Rep at rv
      refine ⟨k, rv, ?_⟩
      cases k with
      | false => exact iteF (h2 (.bl false) H2 G2 S2 (s1.trans s2) (by unfold Rep; rfl))
      | true =>
        dsimp only at h2
        refine iteT ?_
        refine seqD (P := PEq X.K W C l σ H G Q) S2 h2 (fun _ _ z => z) (fun z => z) fun d3 rw3 v3 H3 G3 S3 s3 r3 h3 => ?_
        dsimp only [PEq] at h3
        cases e3 : f' d2 d3 with
        | none => rw [e3] at h3; exact h3.elim
        | some d =>
          rw [e3] at h3
          exact hf' C.r G3 H3 d2 d3 v2 v3 d Q S3.sub (r2.mono s3.g) r3 e3 fun v H' G' sh g r => h3 v H' G' (S3.grow0 sh g) (((s1.trans s2).trans s3).trans g) r
    | _ => exact h2.elim
theorem de_chain {op op' : CmpOp} {r r' : R2} {f f' : D → D → Option D} {a b c : Expr} {ga gb gc : EM D} {pos : Pos} (ho : OpR X (compareOp op) r) (ho' : OpR X (compareOp op') r') (hf : CmpD X.K r f) (hf' : OpD X.K r' f') (ha : DE X W a ga) (hb : DE X W b gb) (hc : DE X W c gc)
    (hm : lastMarks [op, op'] [b, c] = false := by with_unfolding_all rfl) : DE X W (.Compare a [op, op'] [b, c] pos) (eChain f f' ga gb gc) := pe_imp (pe_chain ho ho' ha hb hc hm) (redC hf hf')
theorem dt_chain {op op' : CmpOp} {r r' : R2} {f f' : D → D → Option D} {a b c : Expr} {ga gb gc : EM D} {pos : Pos} (ho : OpR X (compareOp op) r) (ho' : OpR X (compareOp op') r') (hf : CmpD X.K r f) (hf' : OpD X.K r' f') (ha : DE X W a ga) (hb : DE X W b gb) (hc : DE X W c gc)
    (hm : lastMarks [op, op'] [b, c] = false := by with_unfolding_all rfl) : DT X W (.Compare a [op, op'] [b, c] pos) (toB (eChain f f' ga gb gc)) := pt_imp (pt_chain ho ho' ha hb hc hm) fun σ H Q hq => redC hf hf' σ H _ (redB σ H Q hq)
/-! ### and, or, not, if -/
abbrev DW (X : Cx) (W : WD) (e : Expr) (g : EM Bool) : Prop := PW X e (tT X.K W g)
theorem dw_and1 {a : Expr} {pos : Pos} {g : EM Bool} (h : DT X W a g) : DW X W (.BoolOp .And [a] pos) g := pw_and1 h
theorem dw_or1 {a : Expr} {pos : Pos} {g : EM Bool} (h : DT X W a g) : DW X W (.BoolOp .Or [a] pos) g := pw_or1 h
theorem dw_and {a b : Expr} {rest : List Expr} {pos : Pos} {ga gb : EM Bool} (ha : DT X W a ga) (hb : DW X W (.BoolOp .And (b :: rest) pos) gb) : DW X W (.BoolOp .And (a :: b :: rest) pos) (tAnd' ga gb) := by
  refine pw_imp (pw_and ha hb) fun σ H Q hq => ?_
  obtain ⟨C, l, rw, G, S, hp⟩ := hq
  refine seqT (P := PTq X.K W C l σ H G Q) S hp (fun _ _ z => z) (fun z => z) fun b rw1 H1 G1 S1 s1 h1 => ?_
  cases b with
  | true => exact iteT ⟨C, l, rw1, G1, S1, TPost.later s1 h1⟩
  | false => exact iteF (h1 H1 G1 S1 s1)
theorem dw_or {a b : Expr} {rest : List Expr} {pos : Pos} {ga gb : EM Bool} (ha : DT X W a ga) (hb : DW X W (.BoolOp .Or (b :: rest) pos) gb) : DW X W (.BoolOp .Or (a :: b :: rest) pos) (tOr' ga gb) := by
  refine pw_imp (pw_or ha hb) fun σ H Q hq => ?_
  obtain ⟨C, l, rw, G, S, hp⟩ := hq
  refine seqT (P := PTq X.K W C l σ H G Q) S hp (fun _ _ z => z) (fun z => z) fun b rw1 H1 G1 S1 s1 h1 => ?_
  cases b with
  | true => exact iteT (h1 H1 G1 S1 s1)
  | false => exact iteF ⟨C, l, rw1, G1, S1, TPost.later s1 h1⟩
theorem dt_not {a : Expr} {pos : Pos} {g : EM Bool} (h : DT X W a g) : DT X W (.UnaryOp .Not a pos) (tNot' g) := by
  refine pt_imp (pt_not h) fun σ H Q hq => ?_
  obtain ⟨C, l, rw, G, S, hp⟩ := hq
  exact seqT (P := PTq X.K W C l σ H G Q) S hp (fun _ _ z => z) (fun z => z) fun b rw1 H1 G1 S1 s1 h1 => h1 H1 G1 S1 s1
theorem de_one {op : BoolOp} {a : Expr} {pos : Pos} {g : EM D} (h : DE X W a g) : DE X W (.BoolOp op [a] pos) g := pe_one h
theorem de_and {a b : Expr} {rest : List Expr} {pos : Pos} {ga gb : EM D} (ha : DE X W a ga) (hb : DE X W (.BoolOp .And (b :: rest) pos) gb) : DE X W (.BoolOp .And (a :: b :: rest) pos) (vAnd ga gb) := by
  refine pe_imp (pe_and ha hb) fun σ H Q hq => ?_
  obtain ⟨C, l, rw, G, S, hp⟩ := hq
  refine seqD (P := PEq X.K W C l σ H G Q) S hp (fun _ _ z => z) (fun z => z) fun d rw1 v H1 G1 S1 s1 r1 h1 => ?_
  cases d with
  | bl b =>
    unfold Rep at r1
    refine ⟨b, r1, ?_⟩
    cases b with
    | true => exact iteT ⟨C, l, rw1, G1, S1, EPost.later s1 h1⟩
    | false => exact iteF (h1 (.bl false) H1 G1 S1 s1 (by unfold Rep; rfl))
  | _ => exact h1.elim
theorem de_or {a b : Expr} {rest : List Expr} {pos : Pos} {ga gb : EM D} (ha : DE X W a ga) (hb : DE X W (.BoolOp .Or (b :: rest) pos) gb) : DE X W (.BoolOp .Or (a :: b :: rest) pos) (vOr ga gb) := by
  refine pe_imp (pe_or ha hb) fun σ H Q hq => ?_
  obtain ⟨C, l, rw, G, S, hp⟩ := hq
  refine seqD (P := PEq X.K W C l σ H G Q) S hp (fun _ _ z => z) (fun z => z) fun d rw1 v H1 G1 S1 s1 r1 h1 => ?_
  cases d with
  | bl b =>
    unfold Rep at r1
    refine ⟨b, r1, ?_⟩
    cases b with
    | true => exact iteT (h1 (.bl true) H1 G1 S1 s1 (by unfold Rep; rfl))
    | false => exact iteF ⟨C, l, rw1, G1, S1, EPost.later s1 h1⟩
  | _ => exact h1.elim
theorem de_not {a : Expr} {pos : Pos} {g : EM D} (h : DE X W a g) : DE X W (.UnaryOp .Not a pos) (vNot g) := by
  refine pe_imp (pe_not h) fun σ H Q hq => ?_
  obtain ⟨C, l, rw, G, S, hp⟩ := hq
  refine seqD (P := PEq X.K W C l σ H G Q) S hp (fun _ _ z => z) (fun z => z) fun d rw1 v H1 G1 S1 s1 r1 h1 => ?_
  cases d with
  | bl b =>
    unfold Rep at r1
    exact ⟨b, r1, h1 (.bl (!b)) H1 G1 S1 s1 (by unfold Rep; rfl)⟩
  | _ => exact h1.elim
theorem de_if {c a b : Expr} {pos : Pos} {gc : EM Bool} {ga gb : EM D} (hc : DT X W c gc) (ha : DE X W a ga) (hb : DE X W b gb) : DE X W (.IfExp c a b pos) (eIf gc ga gb) := by
  refine pe_imp (pe_ifExp hc ha hb) fun σ H Q hq => ?_
  obtain ⟨C, l, rw, G, S, hp⟩ := hq
  refine seqT (P := PEq X.K W C l σ H G Q) S hp (fun _ _ z => z) (fun z => z) fun b rw1 H1 G1 S1 s1 h1 => ?_
  cases b with
  | true => exact iteT ⟨C, l, rw1, G1, S1, EPost.later s1 h1⟩
  | false => exact iteF ⟨C, l, rw1, G1, S1, EPost.later s1 h1⟩
/-! ### is None -/
theorem Rep.isNon {K : PySem.W.Frag} {o : Option Addr} {G : Hp} {d : D} {v : V} {e : D} (r : Rep K o G d v) (h : isNonD d = some e) : e = .bl (decide (v = .non)) := by
  cases d <;> unfold isNonD at h <;> unfold Rep at r
  case raw => cases h
  case non => subst r; cases h; rfl
  case row => obtain ⟨a, _, rfl⟩ := r; cases h; rfl
  case tup => obtain ⟨a, _, rfl, _⟩ := r; cases h; rfl
  case lst => obtain ⟨a, _, rfl, _⟩ := r; cases h; rfl
  case dic => obtain ⟨a, _, _, _, rfl, _⟩ := r; cases h; rfl
  case scr => obtain ⟨a, rfl, _⟩ := r; cases h; rfl
  all_goals (subst r; cases h; rfl)
theorem notNon_is {d e : D} (h : notNonD d = some e) : ∃ b, isNonD d = some (.bl b) ∧ e = .bl (!b) := by
  cases d <;> unfold notNonD at h <;> unfold isNonD <;> (try cases h) <;> exact ⟨_, rfl, rfl⟩
theorem redIsN {g : EM D} : ∀ σ H Q, tD X.K W (eUn isNonD g) σ H Q → tIsN (tD X.K W g) σ H Q := by
  intro σ H Q hq
  obtain ⟨C, l, rw, G, S, hp⟩ := hq
  refine seqD (P := PEq X.K W C l σ H G Q) S hp (fun _ _ z => z) (fun z => z) fun d rw1 v H1 G1 S1 s1 r1 h1 => ?_
  dsimp only [PEq] at h1
  cases e : isNonD d with
  | none => rw [e] at h1; exact h1.elim
  | some b =>
    rw [e] at h1
    have z := r1.isNon e
    subst z
    exact h1 _ H1 G1 S1 s1 (by unfold Rep; rfl)
theorem redNotN {g : EM D} : ∀ σ H Q, tD X.K W (eUn notNonD g) σ H Q → tNotN (tD X.K W g) σ H Q := by
  intro σ H Q hq
  obtain ⟨C, l, rw, G, S, hp⟩ := hq
  refine seqD (P := PEq X.K W C l σ H G Q) S hp (fun _ _ z => z) (fun z => z) fun d rw1 v H1 G1 S1 s1 r1 h1 => ?_
  dsimp only [PEq] at h1
  cases e : notNonD d with
  | none => rw [e] at h1; exact h1.elim
  | some b =>
    rw [e] at h1
    obtain ⟨k, e1, e2⟩ := notNon_is e
    have z := r1.isNon e1
    injection z with z
    rw [e2, z] at h1
    exact h1 _ H1 G1 S1 s1 (by unfold Rep; rfl)
theorem de_isN {a : Expr} {j : Nat} {pos pos' : Pos} {g : EM D} (h : DE X W a g) : DE X W (.Compare a [.Is] [.Constant .none j pos'] pos) (eUn isNonD g) := pe_imp (pe_cmp (pc_isN h)) redIsN
theorem de_notN {a : Expr} {j : Nat} {pos pos' : Pos} {g : EM D} (h : DE X W a g) : DE X W (.Compare a [.IsNot] [.Constant .none j pos'] pos) (eUn notNonD g) := pe_imp (pe_cmp (pc_notN h)) redNotN
theorem dt_isN {a : Expr} {j : Nat} {pos pos' : Pos} {g : EM D} (h : DE X W a g) : DT X W (.Compare a [.Is] [.Constant .none j pos'] pos) (toB (eUn isNonD g)) := dt_pc (pc_isN h) redIsN
theorem dt_notN {a : Expr} {j : Nat} {pos pos' : Pos} {g : EM D} (h : DE X W a g) : DT X W (.Compare a [.IsNot] [.Constant .none j pos'] pos) (toB (eUn notNonD g)) := dt_pc (pc_notN h) redNotN
end
end HD
end
section
/-! Rules of the data layer: statements, defs, calls. -/
namespace HD
open PySem PySem.Spec L2
open PyProof.Rows hiding St

def sNext : SM := fun l rw => .ok (.next, l, rw)
def sBrk : SM := fun l rw => .ok (.brk, l, rw)
def sCont : SM := fun l rw => .ok (.cont, l, rw)
def sSeq (f g : SM) : SM := fun l rw => (f l rw).bind fun p => match p.1 with
  | .next => g p.2.1 p.2.2
  | x => .ok (x, p.2)
def sSet (i : Nat) (g : EM D) : SM := fun l rw => (g l rw).bind fun p => .ok (.next, l.set i (.val p.1), p.2)
def sSetO (i : Nat) (g : EM D) : SM := fun l rw => (g l rw).bind fun p => .ok (.next, l.set i (.own p.1), p.2)
def sExpr (g : EM D) : SM := fun l rw => (g l rw).bind fun p => .ok (.next, l, p.2)
def sRet (g : EM D) : SM := fun l rw => (g l rw).bind fun p => .ok (.ret p.1, l, p.2)
def sRetN : SM := fun l rw => .ok (.ret .non, l, rw)
/-- return of a name that holds an own thing -/
def sRetV (i : Nat) : SM := fun l rw => match l[i]? with
  | some (.own d) => .ok (.ret d, l, rw)
  | _ => .stuck
def sIf (c : EM Bool) (a b : SM) : SM := fun l rw => (c l rw).bind fun p => if p.1 = true then a l p.2 else b l p.2
/-- an own thing is shown from now on -/
def sFrz (i : Nat) : SM := fun l rw => match l[i]? with
  | some (.own d) => .ok (.next, l.set i (.val d), rw)
  | _ => .stuck
def sLoop (tg : D → Dl → Option Dl) (body : SM) : List D → SM
  | [], l, rw => .ok (.next, l, rw)
  | d :: ds, l, rw => match tg d l with
    | none => .stuck
    | some l1 => (body l1 rw).bind fun p => match p.1 with
      | .next => sLoop tg body ds p.2.1 p.2.2
      | .cont => sLoop tg body ds p.2.1 p.2.2
      | .brk => .ok (.next, p.2)
      | .ret d => .ok (.ret d, p.2)
def sFor (g : EM (List D)) (tg : D → Dl → Option Dl) (body : SM) : SM := fun l rw => (g l rw).bind fun p => sLoop tg body p.1 l p.2
def sWhile (c : EM Bool) (body : SM) : Nat → SM
  | 0, _, _ => .stuck
  | n + 1, l, rw => (c l rw).bind fun p => if p.1 = true then (body l p.2).bind fun q => match q.1 with
      | .next => sWhile c body n q.2.1 q.2.2
      | .cont => sWhile c body n q.2.1 q.2.2
      | .brk => .ok (.next, q.2)
      | .ret d => .ok (.ret d, q.2)
    else .ok (.next, l, p.2)

section
variable {K : PySem.W.Frag} {W : WD} {C : C0} {l : Dl} {rw : Rw} {σ : St} {H G H' G' : Hp} {d : D} {o : HO} {p : Addr} {v : V} {i : Nat}
theorem SR.setV (S : SR K C l rw σ H G) (r : Rep K C.r G d v) : SR K C (l.set i (.val d)) rw (σ.set i (some v)) H G := by
  refine ⟨S.sub, S.fr, S.ft, S.tabs, S.g0, S.gn, S.gt, by simp [S.len], fun j x e => ?_, fun j k d' e' q hjk hj hk h1 h2 => ?_, S.row⟩
  · by_cases h : i = j
    · subst h
      have hi : i < l.length := by
        have := (List.getElem?_eq_some_iff.mp e).1
        simpa using this
      rw [List.getElem?_set_self hi] at e
      cases e
      exact ⟨some v, by rw [List.getElem?_set_self (by rw [S.len]; exact hi)], v, rfl, r⟩
    · rw [List.getElem?_set_ne h] at e
      obtain ⟨u, e1, e2⟩ := S.sl j x e
      exact ⟨u, by rw [List.getElem?_set_ne h]; exact e1, e2⟩
  · have n1 : i ≠ j := fun z => by
      subst z
      have hi : i < l.length := by have := (List.getElem?_eq_some_iff.mp hj).1; simpa using this
      rw [List.getElem?_set_self hi] at hj; cases hj
    have n2 : i ≠ k := fun z => by
      subst z
      have hi : i < l.length := by have := (List.getElem?_eq_some_iff.mp hk).1; simpa using this
      rw [List.getElem?_set_self hi] at hk; cases hk
    rw [List.getElem?_set_ne n1] at hj h1
    rw [List.getElem?_set_ne n2] at hk h2
    exact S.ow j k d' e' q hjk hj hk h1 h2
theorem SR.setO (S : SR K C l rw σ H G) (r : Own K C H G d v) (ne : ∀ (j : Nat) e, j ≠ i → l[j]? = some (.own e) → σ[j]? ≠ some (some v)) : SR K C (l.set i (.own d)) rw (σ.set i (some v)) H G := by
  have hv : ∃ p, v = .ref p := let ⟨p, h, _⟩ := r; ⟨p, h⟩
  refine ⟨S.sub, S.fr, S.ft, S.tabs, S.g0, S.gn, S.gt, by simp [S.len], fun j x e => ?_, fun j k d' e' q hjk hj hk h1 h2 => ?_, S.row⟩
  · by_cases h : i = j
    · subst h
      have hi : i < l.length := by
        have := (List.getElem?_eq_some_iff.mp e).1
        simpa using this
      rw [List.getElem?_set_self hi] at e
      cases e
      exact ⟨some v, by rw [List.getElem?_set_self (by rw [S.len]; exact hi)], v, rfl, r⟩
    · rw [List.getElem?_set_ne h] at e
      obtain ⟨u, e1, e2⟩ := S.sl j x e
      exact ⟨u, by rw [List.getElem?_set_ne h]; exact e1, e2⟩
  · by_cases n1 : i = j
    · subst n1
      have hi : i < σ.length := by have := (List.getElem?_eq_some_iff.mp h1).1; simpa using this
      rw [List.getElem?_set_self hi] at h1
      cases h1
      rw [List.getElem?_set_ne hjk] at hk h2
      exact ne k e' (Ne.symm hjk) hk h2
    · rw [List.getElem?_set_ne n1] at hj h1
      by_cases n2 : i = k
      · subst n2
        have hi : i < σ.length := by have := (List.getElem?_eq_some_iff.mp h2).1; simpa using this
        rw [List.getElem?_set_self hi] at h2
        cases h2
        exact ne j d' hjk hj h1
      · rw [List.getElem?_set_ne n2] at hk h2
        exact S.ow j k d' e' q hjk hj hk h1 h2
theorem Own.nTb {K : PySem.W.Frag} {C : C0} {H G : Hp} {d : D} {p : Addr} {o : HO} (h : Own K C H G d (.ref p)) {ho : H p = some o} : ¬ TbX o := by
  obtain ⟨q, e, h1, h2, h3, h4⟩ := h
  cases e
  cases d with
  | lst ds => obtain ⟨vs, a1, _⟩ := h4; rw [ho] at a1; cases a1; exact nTE_lst
  | dic ks ds => obtain ⟨kvs, vs, a1, _⟩ := h4; rw [ho] at a1; cases a1; exact nTE_dK
  | _ => exact h4.elim
theorem SR.ownAt (S : SR K C l rw σ H G) (e : l[i]? = some (.own d)) : ∃ p, σ[i]? = some (some (.ref p)) ∧ Own K C H G d (.ref p) := by
  obtain ⟨v, e1, u, e2, q⟩ := S.sl i _ e
  subst e2
  obtain ⟨p, e3, _⟩ := id q
  subst e3
  exact ⟨p, e1, q⟩
/-- an own thing that stands in the heap ahead is no new one -/
theorem SR.ownNe (S : SR K C l rw σ H G) (hp : H p = none) : ∀ (j : Nat) e, l[j]? = some (.own e) → σ[j]? ≠ some (some (.ref p)) := fun j e hj hz => by
  obtain ⟨q, e1, ow⟩ := S.ownAt hj
  rw [hz] at e1; cases e1
  obtain ⟨o, ho, _⟩ := ow.obj
  rw [hp] at ho; cases ho
theorem SR.up (S : SR K C l rw σ H G) : SR K ⟨C.r, C.H0, G⟩ l rw σ H G := ⟨S.sub, S.fr, S.ft, S.tabs, Same.refl _, fun a o e => .inl e, S.gt, S.len, S.sl, S.ow, S.row⟩
theorem SR.down {G1 : Hp} (g0 : Same C.G0 G1) (gn : ∀ a o, G1 a = some o → C.G0 a = some o ∨ C.H0 a = none) (S : SR K ⟨C.r, C.H0, G1⟩ l rw σ H G) : SR K C l rw σ H G :=
  ⟨S.sub, S.fr, S.ft, S.tabs, g0.trans S.g0, fun a o e => (S.gn a o e).elim (fun z => gn a o z) .inr, S.gt, S.len, S.sl, S.ow, S.row⟩
/-- an own thing is changed -/
theorem SR.mut {o' : HO} (S : SR K C l rw σ H G) (ho : H p = some o) (nt : ¬ TbX o) (hg : G p = none) (h0 : C.H0 p = none) (hr : C.r ≠ some p) (nx : ∀ (j : Nat) e, l[j]? = some (.own e) → σ[j]? ≠ some (some (.ref p))) : SR K C l rw σ (upd H p o') G := by
  refine ⟨fun a u e => ?_, fun a u e ne nt => ?_, fun a u e => ?_, (TabR.put fun u e => by rw [ho] at e; cases e; exact nt) S.tabs, S.g0, S.gn, S.gt, S.len, fun j x e => ?_, S.ow, ?_⟩
  · rw [upd_ne (ne_of_none e hg)]; exact S.sub a u e
  · rw [upd_ne (ne_of_none e h0)]; exact S.fr a u e ne nt
  · rw [upd_ne (ne_of_none e h0)]; exact S.ft a u e
  · obtain ⟨v, e1, e2⟩ := S.sl j x e
    refine ⟨v, e1, ?_⟩
    cases x with
    | no => trivial
    | val d => exact e2
    | own d =>
      obtain ⟨u, e3, q, a1, a2, a3, a4, a5⟩ := e2
      subst e3 a1
      have ne : q ≠ p := fun z => nx j d e (by rw [e1, z])
      refine ⟨_, rfl, q, rfl, a2, a3, a4, ?_⟩
      cases d with
      | lst ds => obtain ⟨vs, b1, b2, b3⟩ := a5; exact ⟨vs, by rw [upd_ne ne]; exact b1, b2, b3⟩
      | dic ks ds => obtain ⟨kvs, vs, b1, b2, b3, b4, b5⟩ := a5; exact ⟨kvs, vs, by rw [upd_ne ne]; exact b1, b2, b3, b4, b5⟩
      | _ => exact a5.elim
  · have w := S.row
    unfold RowOk at w ⊢
    cases e : C.r with
    | none => rw [e] at w; cases rw <;> exact w
    | some a =>
      rw [e] at w
      cases rw with
      | none => exact w
      | some x =>
        obtain ⟨w1, v, w2, w3⟩ := w
        have ne : a ≠ p := fun z => hr (by rw [e, z])
        exact ⟨w1, v, by rw [upd_ne ne]; exact w2, w3⟩
/-- a slot forgotten -/
theorem SR.forget (S : SR K C l rw σ H G) : SR K C (l.set i .no) rw σ H G := by
  refine ⟨S.sub, S.fr, S.ft, S.tabs, S.g0, S.gn, S.gt, by simp [S.len], fun j x e => ?_, fun j k d' e' q hjk hj hk h1 h2 => ?_, S.row⟩
  · by_cases h : i = j
    · subst h
      have hi : i < l.length := by have := (List.getElem?_eq_some_iff.mp e).1; simpa using this
      rw [List.getElem?_set_self hi] at e
      cases e
      exact ⟨σ[i]'(by rw [S.len]; exact hi), List.getElem?_eq_getElem _, trivial⟩
    · rw [List.getElem?_set_ne h] at e
      exact S.sl j x e
  · have n1 : i ≠ j := fun z => by
      subst z
      have hi : i < l.length := by have := (List.getElem?_eq_some_iff.mp hj).1; simpa using this
      rw [List.getElem?_set_self hi] at hj; cases hj
    have n2 : i ≠ k := fun z => by
      subst z
      have hi : i < l.length := by have := (List.getElem?_eq_some_iff.mp hk).1; simpa using this
      rw [List.getElem?_set_self hi] at hk; cases hk
    rw [List.getElem?_set_ne n1] at hj
    rw [List.getElem?_set_ne n2] at hk
    exact S.ow j k d' e' q hjk hj hk h1 h2
/-- an own slot mutated in place -/
theorem SR.mutAt {d' : D} {o' : HO} (S : SR K C l rw σ H G) (e : l[i]? = some (.own d)) (hp : σ[i]? = some (some (.ref p))) (hd : isLD d' = true) (hob : ObjD K C.r G d' o') : SR K C (l.set i (.own d')) rw σ (upd H p o') G := by
  obtain ⟨q, e1, ow⟩ := S.ownAt e
  rw [hp] at e1; cases e1
  obtain ⟨o, ho, hob0, hg, h0, hr, _, _⟩ := ow.obj
  have S1 : SR K C (l.set i .no) rw σ H G := S.forget
  have nx : ∀ (j : Nat) e, (l.set i .no)[j]? = some (.own e) → σ[j]? ≠ some (some (.ref p)) := fun j e' hj hz => by
    by_cases h : i = j
    · subst h
      have hi : i < l.length := by have := (List.getElem?_eq_some_iff.mp hj).1; simpa using this
      rw [List.getElem?_set_self hi] at hj; cases hj
    · rw [List.getElem?_set_ne h] at hj
      exact S.ow i j d e' p h e hj hp hz
  have S2 : SR K C (l.set i .no) rw σ (upd H p o') G := S1.mut ho (ow.nTb (ho := ho)) hg h0 hr nx
  have ow' : Own K C (upd H p o') G d' (.ref p) := by
    refine ⟨p, rfl, hg, h0, hr, ?_⟩
    cases d' with
    | lst ds => obtain ⟨vs, rfl, h1, h2⟩ := hob; exact ⟨vs, upd_same, h1, h2⟩
    | dic ks ds => obtain ⟨kvs, vs, rfl, h1, h2, h3, h4⟩ := hob; exact ⟨kvs, vs, upd_same, h1, h2, h3, h4⟩
    | _ => cases hd
  have S3 := S2.setO (i := i) ow' fun j e' hji hj => nx j e' hj
  rw [List.set_set] at S3
  have hi : i < σ.length := (List.getElem?_eq_some_iff.mp hp).1
  have es : σ.set i (some (.ref p)) = σ := by
    refine List.ext_getElem? fun j => ?_
    by_cases h : i = j
    · subst h; rw [List.getElem?_set_self hi, hp]
    · rw [List.getElem?_set_ne h]
  rw [es] at S3
  exact S3
end

section
variable {X : Cx} {W : WD} {own : Bool}
/-! ### blocks -/
theorem dss_nil : DSs X W own [] sNext := pss_imp pss_nil fun E σ H ⟨C, l, rw, G, S, hp⟩ => hp σ H G S
theorem dss_cons {st : Stmt} {r : List Stmt} {f g : SM} (h1 : DS X W own st f) (h2 : DSs X W own r g) : DSs X W own (st :: r) (sSeq f g) := by
  refine pss_imp (pss_cons h1 h2) fun E σ H hq => ?_
  obtain ⟨C, l, rw, G, S, hp⟩ := hq
  refine ⟨C, l, rw, G, S, ?_⟩
  unfold sSeq at hp
  cases e : f l rw with
  | exc x w => rw [e] at hp; exact hp
  | stuck => rw [e] at hp; exact hp
  | ok p =>
    obtain ⟨fl, l', rw'⟩ := p
    rw [e] at hp
    cases fl with
    | next => exact fun σ' H' G' S' => ⟨C, l', rw', G', S', hp⟩
    | ret d => exact hp
    | brk => exact hp
    | cont => exact hp
theorem dss_one {st : Stmt} {f : SM} (h1 : DS X W own st f) : DSs X W own [st] f := pss_one h1
/-- a word to the reader: the thing at i isn't changed from here on -/
theorem dss_frz {i : Nat} {sts : List Stmt} {g : SM} (h : DSs X W own sts g) : DSs X W own sts (sSeq (sFrz i) g) := by
  refine pss_imp (pss_locked h) fun E σ H hq => ?_
  obtain ⟨C, l, rw, G, S, hp⟩ := hq
  unfold sSeq sFrz at hp
  cases e : l[i]? with
  | none => rw [e] at hp; exact hp.elim
  | some x =>
    rw [e] at hp
    cases x with
    | no => exact hp.elim
    | val d => exact hp.elim
    | own d =>
      obtain ⟨p, e1, ow⟩ := S.ownAt e
      obtain ⟨o, ho, hob, hg, h0, hr, _, _⟩ := ow.obj
      have S1 : SR X.K C (l.set i .no) rw σ H G := S.forget
      have nx : ∀ (j : Nat) e, (l.set i .no)[j]? = some (.own e) → σ[j]? ≠ some (some (.ref p)) := fun j e' hj hz => by
        by_cases h : i = j
        · subst h
          have hi : i < l.length := by have := (List.getElem?_eq_some_iff.mp hj).1; simpa using this
          rw [List.getElem?_set_self hi] at hj; cases hj
        · rw [List.getElem?_set_ne h] at hj
          exact S.ow i j d e' p h e hj e1 hz
      have hi : i < σ.length := (List.getElem?_eq_some_iff.mp e1).1
      have es : σ.set i (some (.ref p)) = σ := by
        refine List.ext_getElem? fun j => ?_
        by_cases h : i = j
        · subst h; rw [List.getElem?_set_self hi, e1]
        · rw [List.getElem?_set_ne h]
      by_cases hd : isDic d = false
      · have S2 := (S1.freeze ho (fun ps z => ow.nTb (ho := ho) (.inl ⟨ps, z⟩)) hg h0 hr nx).setV (i := i) (hob.rep hg hd)
        rw [List.set_set, es] at S2
        exact .inl ⟨C, _, rw, _, S2, hp⟩
      · cases d with
        | dic ks ds =>
          obtain ⟨kvs, vs, eo, _⟩ := id hob
          subst eo
          refine .inr ⟨p, _, ho, trivial, fun od => ?_⟩
          have S2 := (S1.lock (od := od) ho hg h0 hr nx nTE_dK).setV (i := i) (hob.repK hg)
          rw [List.set_set, es] at S2
          exact ⟨C, _, rw, _, S2, hp⟩
        | _ => exact absurd rfl hd
/-! ### small statements -/
theorem ds_pass {pos : Pos} : DS X W own (.Pass pos) sNext := ps_imp ps_pass fun E σ H ⟨C, l, rw, G, S, hp⟩ => hp σ H G S
theorem ds_break {pos : Pos} : DS X W own (.Break pos) sBrk := ps_imp ps_break fun E σ H ⟨C, l, rw, G, S, hp⟩ => hp σ H G S
theorem ds_cont {pos : Pos} : DS X W own (.Continue pos) sCont := ps_imp ps_continue fun E σ H ⟨C, l, rw, G, S, hp⟩ => hp σ H G S
theorem ds_expr {e : Expr} {g : EM D} {pos : Pos} (h : DE X W e g) (hs : swapsWith e none pos.line X.env = pure false := by rfl) : DS X W own (.Expr e pos) (sExpr g) := by
  refine ps_imp (ps_expr h hs) fun E σ H hq => ?_
  obtain ⟨C, l, rw, G, S, hp⟩ := hq
  exact seqD (P := PSq X.K W own C E) S hp (fun x w z H' G' S' => z l σ H' G' S') (fun z => z) fun d rw1 v H1 G1 S1 s1 r1 h1 => h1 σ H1 G1 S1
theorem ds_set {i : Nat} {x : Str} {e : Expr} {g : EM D} {pos pos' : Pos} (hN : X.N.Nodup) (hi : X.N[i]? = some x) (hx : Loc X.env.scope x) (he : DE X W e g) (hs : swapsWith e (some (.Name x pos')) pos.line X.env = pure false := by rfl)
    (hf : X.fn x = true ∨ X.env.scope.names.lookup x = some .local := by first | exact .inl rfl | exact .inr rfl | assumption) : DS X W own (.Assign [.Name x pos'] e pos) (sSet i g) := by
  refine ps_imp (ps_set hN hi hx he hs hf) fun E σ H hq => ?_
  obtain ⟨C, l, rw, G, S, hp⟩ := hq
  exact seqD (P := PSq X.K W own C E) S hp (fun x w z H' G' S' => z l σ H' G' S') (fun z => z) fun d rw1 v H1 G1 S1 s1 r1 h1 => h1 _ H1 G1 (S1.setV r1)
theorem ds_setO {i : Nat} {x : Str} {e : Expr} {g : EM D} {pos pos' : Pos} (hN : X.N.Nodup) (hi : X.N[i]? = some x) (hx : Loc X.env.scope x) (he : DO X W e g) (hs : swapsWith e (some (.Name x pos')) pos.line X.env = pure false := by rfl)
    (hf : X.fn x = true ∨ X.env.scope.names.lookup x = some .local := by first | exact .inl rfl | exact .inr rfl | assumption) : DS X W own (.Assign [.Name x pos'] e pos) (sSetO i g) := by
  refine ps_imp (ps_set hN hi hx he hs hf) fun E σ H hq => ?_
  obtain ⟨C, l, rw, G, S, hp⟩ := hq
  refine seqO (P := PSq X.K W own C E) S hp (fun x w z H' G' S' => z l σ H' G' S') (fun z => z) fun d rw1 p H1 G1 S1 s1 f r1 h1 => h1 _ H1 G1 (S1.setO r1 fun j e _ hj hz => S.ownNe f j e hj hz)
theorem ds_ret {e : Expr} {g : EM D} {pos : Pos} (h : DE X W e g) : DS X W false (.Return (some e) pos) (sRet g) := by
  refine ps_imp (ps_ret h) fun E σ H hq => ?_
  obtain ⟨C, l, rw, G, S, hp⟩ := hq
  exact seqD (P := PSq X.K W false C E) S hp (fun x w z H' G' S' => z l σ H' G' S') (fun z => z) fun d rw1 v H1 G1 S1 s1 r1 h1 => h1 v σ H1 G1 S1 r1
theorem ds_retO {e : Expr} {g : EM D} {pos : Pos} (h : DO X W e g) : DS X W true (.Return (some e) pos) (sRet g) := by
  refine ps_imp (ps_ret h) fun E σ H hq => ?_
  obtain ⟨C, l, rw, G, S, hp⟩ := hq
  exact seqO (P := PSq X.K W true C E) S hp (fun x w z H' G' S' => z l σ H' G' S') (fun z => z) fun d rw1 p H1 G1 S1 s1 f r1 h1 => h1 (.ref p) σ H1 G1 S1 r1
theorem ds_retN {pos : Pos} : DS X W false (.Return none pos) sRetN := by
  refine ps_imp ps_retN fun E σ H hq => ?_
  obtain ⟨C, l, rw, G, S, hp⟩ := hq
  exact hp .non σ H G S (by unfold RetRep; rw [if_neg Bool.false_ne_true]; unfold Rep; rfl)
theorem ds_retV {i : Nat} {x : Str} {pos pos' : Pos} (h : PE X (.Name x pos') (tVar i)) : DS X W true (.Return (some (.Name x pos')) pos) (sRetV i) := by
  refine ps_imp (ps_ret h) fun E σ H hq => ?_
  obtain ⟨C, l, rw, G, S, hp⟩ := hq
  unfold sRetV at hp
  cases e : l[i]? with
  | none => rw [e] at hp; exact hp.elim
  | some x =>
    rw [e] at hp
    cases x with
    | no => exact hp.elim
    | val d => exact hp.elim
    | own d =>
      obtain ⟨p, e1, ow⟩ := S.ownAt e
      exact ⟨.ref p, e1, hp (.ref p) σ H G S (by unfold RetRep; rw [if_pos rfl]; exact ow)⟩
theorem ds_if {c : Expr} {a b : List Stmt} {gc : EM Bool} {f g : SM} {pos : Pos} (hc : DT X W c gc) (ha : DSs X W own a f) (hb : DSs X W own b g) : DS X W own (.If c a b pos) (sIf gc f g) := by
  refine ps_imp (ps_if hc ha hb) fun E σ H hq => ?_
  obtain ⟨C, l, rw, G, S, hp⟩ := hq
  refine seqT (P := PSq X.K W own C E) S hp (fun x w z H' G' S' => z l σ H' G' S') (fun z => z) fun b rw1 H1 G1 S1 s1 h1 => ?_
  cases b with
  | true => exact iteT ⟨C, l, rw1, G1, S1, h1⟩
  | false => exact iteF ⟨C, l, rw1, G1, S1, h1⟩

/-! ### targets -/
def tG (K : PySem.W.Frag) (js : List Nat) (tg : D → Dl → Option Dl) : TG := fun v σ H Q => ∃ C l rw G d l', SR K C l rw σ H G ∧ Rep K C.r G d v ∧ tg d l = some l' ∧ ∀ σ', SR K C l' rw σ' H G → (∀ vs : List Nat, (∀ j ∈ js, j ∈ vs) → wipe σ' vs = wipe σ vs) → Q σ' H
def tGs (K : PySem.W.Frag) (js : List Nat) (tg : List D → Dl → Option Dl) : TGs := fun vs σ H Q => ∃ C l rw G ds l', SR K C l rw σ H G ∧ Reps K C.r G ds vs ∧ tg ds l = some l' ∧ ∀ σ', SR K C l' rw σ' H G → (∀ vs : List Nat, (∀ j ∈ js, j ∈ vs) → wipe σ' vs = wipe σ vs) → Q σ' H
abbrev DG (X : Cx) (e : Expr) (js : List Nat) (tg : D → Dl → Option Dl) : Prop := PG X e (tG X.K js tg)
abbrev DGs (X : Cx) (es : List Expr) (js : List Nat) (tg : List D → Dl → Option Dl) : Prop := PGs X es (tGs X.K js tg)
theorem pg_imp {e : Expr} {t t' : TG} (h : PG X e t) (i : ∀ v σ H Q, t' v σ H Q → t v σ H Q) : PG X e t' := ⟨fun pins s σ H v u Q I r q => h.run pins s σ H v u Q I r (i v σ H Q q)⟩
theorem pgs_imp {e : List Expr} {t t' : TGs} (h : PGs X e t) (i : ∀ v σ H Q, t' v σ H Q → t v σ H Q) : PGs X e t' := ⟨fun pins s σ H v u Q I r q => h.run pins s σ H v u Q I r (i v σ H Q q)⟩
theorem wipe_set {σ : St} {i : Nat} {x : Option V} : ∀ {vs : List Nat}, i ∈ vs → wipe (σ.set i x) vs = wipe σ vs
  | [], h => by simp at h
  | v :: vs, h => by
    unfold wipe
    by_cases e : i = v
    · subst e
      by_cases h2 : i ∈ vs
      · rw [wipe_set h2]
      · have : ∀ (vs : List Nat) (σ : St), i ∉ vs → wipe (σ.set i x) vs = (wipe σ vs).set i x := by
          intro vs
          induction vs with
          | nil => intro σ _; rfl
          | cons u us ih =>
            intro σ hn
            unfold wipe
            rw [ih σ fun z => hn (List.mem_cons_of_mem _ z), List.set_comm]
            exact fun z => hn (z ▸ List.mem_cons_self)
        rw [this vs σ h2, List.set_set]
    · rw [wipe_set ((List.mem_cons.mp h).resolve_left e)]
def gN (i : Nat) : D → Dl → Option Dl := fun d l => some (l.set i (.val d))
theorem dg_name {i : Nat} {x : Str} {pos : Pos} (hN : X.N.Nodup) (hi : X.N[i]? = some x) (hx : Loc X.env.scope x) (hf : X.fn x = true ∨ X.env.scope.names.lookup x = some .local := by first | exact .inl rfl | exact .inr rfl | assumption) : DG X (.Name x pos) [i] (gN i) := by
  refine pg_imp (pg_name hN hi hx hf) fun v σ H Q hq => ?_
  obtain ⟨C, l, rw, G, d, l', S, r, e, k⟩ := hq
  cases e
  exact k _ (S.setV r) fun vs h => wipe_set (h i (by simp))
def gsNil : List D → Dl → Option Dl := fun ds l => match ds with
  | [] => some l
  | _ => none
def gsCons (t : D → Dl → Option Dl) (u : List D → Dl → Option Dl) : List D → Dl → Option Dl := fun ds l => match ds with
  | d :: r => (t d l).bind fun l1 => u r l1
  | [] => none
theorem dgs_nil : DGs X [] [] gsNil := by
  refine pgs_imp pgs_nil fun v σ H Q hq => ?_
  obtain ⟨C, l, rw, G, ds, l', S, r, e, k⟩ := hq
  unfold gsNil at e
  cases ds with
  | nil => cases e; unfold Reps at r; exact ⟨r, k σ S fun _ _ => rfl⟩
  | cons _ _ => cases e
theorem dgs_cons {e : Expr} {es : List Expr} {js ks : List Nat} {t : D → Dl → Option Dl} {u : List D → Dl → Option Dl} (h1 : DG X e js t) (h2 : DGs X es ks u)
    (hs : (assignEach (e :: es) X.env).map (·.2) = assign e X.env :: (assignEach es X.env).map (·.2) := by rfl) : DGs X (e :: es) (js ++ ks) (gsCons t u) := by
  refine pgs_imp (pgs_cons h1 h2 hs) fun v σ H Q hq => ?_
  obtain ⟨C, l, rw, G, ds, l', S, r, e, k⟩ := hq
  unfold gsCons at e
  cases ds with
  | nil => cases e
  | cons d ds =>
    unfold Reps at r
    obtain ⟨v1, vr, e1, r1, r2⟩ := r
    cases q : t d l with
    | none => simp [q] at e
    | some l1 =>
      simp only [q, Option.bind_some] at e
      refine ⟨v1, vr, e1, C, l, rw, G, d, l1, S, r1, q, fun σ1 S1 w1 => ?_⟩
      refine ⟨C, l1, rw, G, ds, l', S1, r2, e, fun σ2 S2 w2 => k σ2 S2 fun vs h => ?_⟩
      rw [w2 vs fun j hj => h j (List.mem_append_right _ hj), w1 vs fun j hj => h j (List.mem_append_left _ hj)]
def gT (n : Nat) (u : List D → Dl → Option Dl) : D → Dl → Option Dl := fun d l => match d with
  | .tup ds => if ds.length = n then u ds l else none
  | _ => none
theorem dg_tup {es : List Expr} {k n : Nat} {js : List Nat} {u : List D → Dl → Option Dl} {pos : Pos} (hc : X.calm = true) (h : DGs X es js u) (hn : (assignEach es X.env).length = n := by rfl) (hst : (assignEach es X.env).findIdx? (·.1) = none := by rfl) : DG X (.Tuple es k pos) js (gT n u) := by
  refine pg_imp (pg_tup hc h hn hst) fun v σ H Q hq => ?_
  obtain ⟨C, l, rw, G, d, l', S, r, e, q⟩ := hq
  cases d with
  | tup ds =>
    unfold gT at e
    dsimp only at e
    by_cases z : ds.length = n
    · rw [if_pos z] at e
      unfold Rep at r
      obtain ⟨a, vs, rfl, h1, h2, h3⟩ := r
      exact ⟨a, vs, rfl, Same.seqT S.sub h1, by rw [← h3.length]; exact z, C, l, rw, G, ds, l', S, h3, e, q⟩
    · rw [if_neg z] at e; cases e
  | _ => cases e
/-- target = value -/
def sAsg (g : EM D) (tg : D → Dl → Option Dl) : SM := fun l rw => (g l rw).bind fun p => match tg p.1 l with
  | some l' => .ok (.next, l', p.2)
  | none => .stuck
theorem ds_asg {tgt e : Expr} {g : EM D} {js : List Nat} {tg : D → Dl → Option Dl} {pos : Pos} (he : DE X W e g) (hg : DG X tgt js tg) (hs : swapsWithSole [tgt] e pos.line X.env = pure false := by rfl) (hw : swappedStores [tgt] e X.env = pure none := by rfl)
    (h1 : (assignEach [tgt] X.env).map (·.2) = [assign tgt X.env] := by rfl) : DS X W own (.Assign [tgt] e pos) (sAsg g tg) := by
  refine ps_imp (ps_asg he hg hs hw h1) fun E σ H hq => ?_
  obtain ⟨C, l, rw, G, S, hp⟩ := hq
  refine seqD (P := PSq X.K W own C E) S hp (fun x w z H' G' S' => z l σ H' G' S') (fun z => z) fun d rw1 v H1 G1 S1 s1 r1 h1 => ?_
  dsimp only [PSq] at h1
  cases q : tg d l with
  | none => rw [q] at h1; exact h1.elim
  | some l' =>
    rw [q] at h1
    exact ⟨C, l, rw1, G1, d, l', S1, r1, q, fun σ' S' _ => h1 σ' H1 G1 S'⟩

/-! ### loops -/
structure WalkD (K : PySem.W.Frag) (r : Option Addr) (G : Hp) (J : It) (ds : List D) : Prop where
  go : ∀ i H, Same G H → i < ds.length → J.go i H
  stop : ∀ i H, Same G H → ds.length ≤ i → J.stop i H
  yld : ∀ i H x H', Same G H → J.yld i H x H' → ∀ d, ds[i]? = some d → H' = H ∧ Rep K r G d x
def IPost (K : PySem.W.Frag) (W : WD) (C : C0) (l : Dl) (σ : St) (H G : Hp) (q : R (List D × Rw)) (Rr : It → Hp → Prop) : Prop :=
  match q with
  | .ok (ds, rw') => ∀ J H' G', SR K C l rw' σ H' G' → Gr K C.r H G H' G' → WalkD K C.r G' J ds → Rr J H'
  | .exc x rw' => ∀ H' G', SR K C l rw' σ H' G' → W x σ H'
  | .stuck => False
def tI (K : PySem.W.Frag) (W : WD) (g : EM (List D)) : TI := fun σ H Rr => ∃ C l rw G, SR K C l rw σ H G ∧ IPost K W C l σ H G (g l rw) Rr
abbrev DI (X : Cx) (W : WD) (tg e : Expr) (g : EM (List D)) : Prop := PI X tg e (tI X.K W g)
theorem pi_imp {tg e : Expr} {t t' : TI} (h : PI X tg e t) (i : ∀ σ H R, t' σ H R → t σ H R) : PI X tg e t' := ⟨fun pins s σ H R I q => h.run pins s σ H R I (i σ H R q)⟩
theorem seqI {K : PySem.W.Frag} {C : C0} {l : Dl} {rw : Rw} {σ : St} {H G : Hp} {β : Type} {g : EM (List D)} {k : List D × Rw → R β} {P : R β → Prop} {Q' : It → Hp → Prop} (S : SR K C l rw σ H G) (hp : P ((g l rw).bind k)) (hx : ∀ x w, P (.exc x w) → ∀ H' G', SR K C l w σ H' G' → W x σ H') (hs : P .stuck → False)
    (f : ∀ ds rw' J H' G', SR K C l rw' σ H' G' → Gr K C.r H G H' G' → WalkD K C.r G' J ds → P (k (ds, rw')) → Q' J H') : tI K W g σ H Q' := by
  refine ⟨C, l, rw, G, S, ?_⟩
  cases e1 : g l rw with
  | exc x w => rw [e1] at hp; exact hx x w hp
  | stuck => rw [e1] at hp; exact (hs hp).elim
  | ok p =>
    obtain ⟨d, rw'⟩ := p
    rw [e1] at hp
    exact fun vs H' G' S' s r => f d rw' vs H' G' S' s r hp
theorem SPost.up {K : PySem.W.Frag} {C : C0} {G1 : Hp} {q : R (Fl × Dl × Rw)} {E : Ends} (g0 : Same C.G0 G1) (gn : ∀ a o, G1 a = some o → C.G0 a = some o ∨ C.H0 a = none) (h : SPost K W own C q E) : SPost K W own ⟨C.r, C.H0, G1⟩ q E := by
  cases q with
  | exc x w => exact fun l' σ' H' G' S' => h l' σ' H' G' (S'.down g0 gn)
  | stuck => exact h
  | ok p =>
    obtain ⟨fl, l', rw'⟩ := p
    cases fl with
    | next => exact fun σ' H' G' S' => h σ' H' G' (S'.down g0 gn)
    | brk => exact fun σ' H' G' S' => h σ' H' G' (S'.down g0 gn)
    | cont => exact fun σ' H' G' S' => h σ' H' G' (S'.down g0 gn)
    | ret d => exact fun v σ' H' G' S' r => h v σ' H' G' (S'.down g0 gn) r
theorem ds_for {tgt iter : Expr} {body : List Stmt} {g : EM (List D)} {js : List Nat} {tg : D → Dl → Option Dl} {f : SM} {pos : Pos} (hp : PassesOwn (model X.prog X.w) X.A X.env X.xe) (hc : X.calm = true) (hi : DI X W tgt iter g) (hg : DG X tgt js tg) (hb : DSs X W own body f)
    (hs : ∀ x, foldedSetIterable iter X.env x = pure x := by intro _; rfl) : DS X W own (.For tgt iter body [] pos) (sFor g tg f) := by
  refine ps_imp (ps_for hp hc hi hg hb hs) fun E σ H hq => ?_
  obtain ⟨C, l, rw, G, S, hp⟩ := hq
  refine seqI (P := PSq X.K W own C E) S hp (fun x w z H' G' S' => z l σ H' G' S') (fun z => z) fun ds rw1 J H1 G1 S1 s1 wd h1 => ?_
  refine ⟨fun i m σ H => m = ds.length - i ∧ i ≤ ds.length ∧ ∃ l rw G, SR X.K ⟨C.r, C.H0, G1⟩ l rw σ H G ∧ SPost X.K W own ⟨C.r, C.H0, G1⟩ (sLoop tg f (ds.drop i) l rw) E, ⟨ds.length, rfl, Nat.zero_le _, l, rw1, G1, S1.up, by rw [List.drop_zero]; exact SPost.up S1.g0 S1.gn h1⟩, ?_⟩
  rintro i m σ2 H2 ⟨rfl, hi, l2, rw2, G2, S2, h2⟩
  by_cases hlt : i < ds.length
  · refine .inr ⟨wd.go i H2 (S2.g0.trans S2.sub) hlt, ?_⟩
    have hd : ds.drop i = ds[i] :: ds.drop (i + 1) := List.drop_eq_getElem_cons hlt
    rw [hd] at h2
    unfold sLoop at h2
    cases q : tg ds[i] l2 with
    | none => rw [q] at h2; exact h2.elim
    | some l3 =>
      rw [q] at h2
      dsimp only at h2
      refine ⟨fun σ' H' => ∃ l rw G, SR X.K ⟨C.r, C.H0, G1⟩ l rw σ' H' G ∧ SPost X.K W own ⟨C.r, C.H0, G1⟩ (sLoop tg f (ds.drop (i + 1)) l rw) E, fun σ' H' hN => ⟨_, by omega, rfl, hlt, hN⟩, fun x H' y => ?_⟩
      obtain ⟨e, r⟩ := wd.yld i H2 x H' (S2.g0.trans S2.sub) y _ (List.getElem?_eq_getElem hlt)
      subst e
      refine ⟨⟨C.r, C.H0, G1⟩, l2, rw2, G2, ds[i], l3, S2, r.mono S2.g0, q, fun σ' S' _ => ?_⟩
      refine ⟨⟨C.r, C.H0, G1⟩, l3, rw2, G2, S', ?_⟩
      cases e : f l3 rw2 with
      | exc x w => rw [e] at h2; exact h2
      | stuck => rw [e] at h2; exact h2
      | ok p =>
        obtain ⟨fl, l', rw'⟩ := p
        rw [e] at h2
        cases fl with
        | next => exact fun σ' H' G' S' => ⟨l', rw', G', S', h2⟩
        | cont => exact fun σ' H' G' S' => ⟨l', rw', G', S', h2⟩
        | brk => exact h2
        | ret d => exact h2
  · have e : i = ds.length := by omega
    subst e
    rw [List.drop_length] at h2
    exact .inl ⟨wd.stop _ H2 (S2.g0.trans S2.sub) (Nat.le_refl _), h2 σ2 H2 G2 S2⟩
theorem ds_while {c : Expr} {body : List Stmt} {gc : EM Bool} {f : SM} {pos : Pos} (n : Nat) (hp : PassesOwn (model X.prog X.w) X.A X.env X.xe) (hc : DT X W c gc) (hb : DSs X W own body f) : DS X W own (.While c body [] pos) (sWhile gc f n) := by
  refine ps_imp (ps_while hp hc hb) fun E σ H hq => ?_
  obtain ⟨C, l, rw, G, S, hp⟩ := hq
  refine ⟨fun m σ H => ∃ l rw G, SR X.K C l rw σ H G ∧ SPost X.K W own C (sWhile gc f m l rw) E, ⟨n, l, rw, G, S, hp⟩, ?_⟩
  rintro m σ2 H2 ⟨l2, rw2, G2, S2, h2⟩
  cases m with
  | zero => exact h2.elim
  | succ m =>
    unfold sWhile at h2
    refine seqT (P := PSq X.K W own C E) S2 h2 (fun x w z H' G' S' => z l2 σ2 H' G' S') (fun z => z) fun b rw3 H3 G3 S3 s3 h3 => ?_
    cases b with
    | false => exact iteF (h3 σ2 H3 G3 S3)
    | true =>
      refine iteT ⟨fun σ' H' => ∃ l rw G, SR X.K C l rw σ' H' G ∧ SPost X.K W own C (sWhile gc f m l rw) E, fun σ' H' hN => ⟨m, Nat.lt_succ_self _, hN⟩, C, l2, rw3, G3, S3, ?_⟩
      dsimp only [PSq] at h3
      rw [if_pos rfl] at h3
      cases e : f l2 rw3 with
      | exc x w => rw [e] at h3; exact h3
      | stuck => rw [e] at h3; exact h3
      | ok p =>
        obtain ⟨fl, l', rw'⟩ := p
        rw [e] at h3
        cases fl with
        | next => exact fun σ' H' G' S' => ⟨l', rw', G', S', h3⟩
        | cont => exact fun σ' H' G' S' => ⟨l', rw', G', S', h3⟩
        | brk => exact h3
        | ret d => exact h3
end
end HD
end
section
/-! Rules of the data layer: what is walked, comprehensions, own things changed, borrowed; calls; defs. -/
namespace HD
open PySem PySem.Spec L2
open PyProof.Rows hiding St

/-! ### what is walked -/
def itemsOf : D → Option (List D)
  | .lst ds => some ds
  | .tup ds => some ds
  | _ => none
def aItems (g : EM D) : EM (List D) := fun l rw => (g l rw).bind fun p => ofO (itemsOf p.1) p.2
def rangeD (lo : Int) (n : Nat) : List D := (List.range n).map fun (k : Nat) => .int (lo + (k : Int))
theorem small62 {j : Int} (h : -1000000 ≤ j ∧ j ≤ 1000000) : -(2 ^ 62) ≤ j ∧ j < 2 ^ 62 := ⟨Int.le_trans (by decide) h.1, Int.lt_of_le_of_lt h.2 (by decide)⟩
def rng1 : List D → Option (List D)
  | [.int j] => if -1000000 ≤ j ∧ j ≤ 1000000 then some (rangeD 0 j.toNat) else none
  | _ => none
def rng2 : List D → Option (List D)
  | [.int i, .int j] => if (-1000000 ≤ i ∧ i ≤ 1000000) ∧ (-1000000 ≤ j ∧ j ≤ 1000000) then some (rangeD i (j - i).toNat) else none
  | _ => none
def aRng (f : List D → Option (List D)) (g : EM (List D)) : EM (List D) := fun l rw => (g l rw).bind fun p => ofO (f p.1) p.2
section
variable {K : PySem.W.Frag} {r : Option Addr} {G : Hp}
theorem walk_l {a : Addr} {vs : List V} {ds : List D} (h : G a = some (.lst vs)) (q : Reps K r G ds vs) : WalkD K r G (Itl K a) ds where
  go := fun i H s hi => by
    have hl := q.length
    exact ⟨vs, vs[i]'(by omega), .of (s _ _ h), List.getElem?_eq_getElem _⟩
  stop := fun i H s hi => ⟨vs, .of (s _ _ h), by rw [← q.length]; exact hi⟩
  yld := fun i H x H' s y d hd => by
    obtain ⟨e, y⟩ := y
    obtain ⟨v, e1, e2⟩ := q.get hd
    have e3 := y vs (.of (s _ _ h))
    rw [e1] at e3; cases e3
    exact ⟨e, e2⟩
theorem walk_t {a : Addr} {vs : List V} {ds : List D} (h : SqT K G a vs) (q : Reps K r G ds vs) : WalkD K r G (Itt K a) ds where
  go := fun i H s hi => by
    have hl := q.length
    exact ⟨vs, vs[i]'(by omega), Same.seqT s h, List.getElem?_eq_getElem _⟩
  stop := fun i H s hi => ⟨vs, Same.seqT s h, by rw [← q.length]; exact hi⟩
  yld := fun i H x H' s y d hd => by
    obtain ⟨e, y⟩ := y
    obtain ⟨v, e1, e2⟩ := q.get hd
    have e3 := y vs (Same.seqT s h)
    rw [e1] at e3; cases e3
    exact ⟨e, e2⟩
theorem rangeD_length {lo : Int} {n : Nat} : (rangeD lo n).length = n := by simp [rangeD]
theorem walk_r {lo : Int} {n : Nat} : WalkD K r G (Itr lo n) (rangeD lo n) where
  go := fun i H s hi => by rw [rangeD_length] at hi; exact hi
  stop := fun i H s hi => by rw [rangeD_length] at hi; exact hi
  yld := fun i H x H' s y d hd => by
    obtain ⟨e, y⟩ := y
    refine ⟨e, ?_⟩
    unfold rangeD at hd
    rw [List.getElem?_map] at hd
    cases q : (List.range n)[i]? with
    | none => rw [q] at hd; cases hd
    | some k =>
      rw [q] at hd
      have hk : k = i := by
        have hi : i < (List.range n).length := (List.getElem?_eq_some_iff.mp q).1
        rw [List.getElem?_eq_getElem hi] at q
        simpa using q.symm
      cases hd
      subst y
      unfold Rep
      rw [hk]
end
section
variable {X : Cx} {W : WD} {own : Bool}
theorem pi_or {tg e : Expr} {t t' : TI} (h : PI X tg e t) (h' : PI X tg e t') : PI X tg e (fun σ H R => t σ H R ∨ t' σ H R) := ⟨fun pins s σ H R I q => q.elim (h.run pins s σ H R I) (h'.run pins s σ H R I)⟩
theorem di_seq {tg e : Expr} {g : EM D} (h : DE X W e g) : DI X W tg e (aItems g) := by
  refine pi_imp (pi_or (pi_list h) (pi_tup h)) fun σ H Rr hq => ?_
  obtain ⟨C, l, rw, G, S, hp⟩ := hq
  cases e : g l rw with
  | exc x w => unfold aItems at hp; rw [e] at hp; exact .inl ⟨C, l, rw, G, S, by rw [e]; exact hp⟩
  | stuck => unfold aItems at hp; rw [e] at hp; exact hp.elim
  | ok p =>
    obtain ⟨d, rw'⟩ := p
    unfold aItems at hp
    rw [e] at hp
    cases d with
    | lst ds =>
      refine .inl ⟨C, l, rw, G, S, ?_⟩
      rw [e]
      intro v H1 G1 S1 s1 r1
      unfold Rep at r1
      obtain ⟨a, vs, rfl, h1, h2, h3⟩ := r1
      exact ⟨a, rfl, ⟨vs, .of (S1.sub _ _ h1)⟩, hp (Itl X.K a) H1 G1 S1 s1 (walk_l h1 h3)⟩
    | tup ds =>
      refine .inr ⟨C, l, rw, G, S, ?_⟩
      rw [e]
      intro v H1 G1 S1 s1 r1
      unfold Rep at r1
      obtain ⟨a, vs, rfl, h1, h2, h3⟩ := r1
      exact ⟨a, rfl, ⟨vs, Same.seqT S1.sub h1⟩, hp (Itt X.K a) H1 G1 S1 s1 (walk_t h1 h3)⟩
    | _ => exact hp.elim
theorem di_rng1 {tg a : Expr} {g : EM (List D)} {p pos : Pos} (hg : Gl X "range") (hm : X.mg "range" = none) (ha : DA X W [a] g) (hs : starEach [a] X.env = [(false, eval a X.env)] := by rfl) : DI X W tg (.Call (.Name "range" p) [a] [] pos) (aRng rng1 g) := by
  refine pi_imp (pi_range1 hg hm ha hs) fun σ H Rr hq => ?_
  obtain ⟨C, l, rw, G, S, hp⟩ := hq
  refine seqA (P := fun q => IPost X.K W C l σ H G q Rr) S hp (fun x w z H' G' S' => z H' G' S') (fun z => z) fun ds rw1 vs H1 G1 S1 s1 r1 h1 => ?_
  dsimp only at h1
  cases e : rng1 ds with
  | none => rw [e] at h1; exact h1.elim
  | some xs =>
    rw [e] at h1
    unfold rng1 at e
    split at e
    case h_2 => cases e
    case h_1 j =>
      split at e
      case isFalse => cases e
      case isTrue hj =>
        cases e
        have rv : vs = [.int j] := Reps.ints (ns := [j]) r1
        exact ⟨j, rv, (small62 hj).1, (small62 hj).2, h1 _ H1 G1 S1 s1 walk_r⟩
theorem di_rng2 {tg a b : Expr} {g : EM (List D)} {p pos : Pos} (hg : Gl X "range") (hm : X.mg "range" = none) (ha : DA X W [a, b] g) (hs : starEach [a, b] X.env = [(false, eval a X.env), (false, eval b X.env)] := by rfl) (hs2 : starEach [b] X.env = [(false, eval b X.env)] := by rfl) :
    DI X W tg (.Call (.Name "range" p) [a, b] [] pos) (aRng rng2 g) := by
  refine pi_imp (pi_range2 hg hm ha hs hs2) fun σ H Rr hq => ?_
  obtain ⟨C, l, rw, G, S, hp⟩ := hq
  refine seqA (P := fun q => IPost X.K W C l σ H G q Rr) S hp (fun x w z H' G' S' => z H' G' S') (fun z => z) fun ds rw1 vs H1 G1 S1 s1 r1 h1 => ?_
  dsimp only at h1
  cases e : rng2 ds with
  | none => rw [e] at h1; exact h1.elim
  | some xs =>
    rw [e] at h1
    unfold rng2 at e
    split at e
    case h_2 => cases e
    case h_1 i j =>
      split at e
      case isFalse => cases e
      case isTrue hj =>
        cases e
        have rv : vs = [.int i, .int j] := Reps.ints (ns := [i, j]) r1
        exact ⟨i, j, rv, ⟨(small62 hj.1).1, (small62 hj.1).2, (small62 hj.2).1, (small62 hj.2).2⟩, h1 _ H1 G1 S1 s1 walk_r⟩

/-! ### comprehensions -/
end
def noX {α : Type} (r : R α) : R α := match r with
  | .exc _ _ => .stuck
  | q => q
def compL (tg : D → Dl → Option Dl) (c : EM Bool) (e : EM D) (lw : Dl) : List D → Rw → R (List D × Rw)
  | [], rw => .ok ([], rw)
  | d :: ds, rw => match tg d lw with
    | none => .stuck
    | some l1 => (noX (c l1 rw)).bind fun p => if p.1 = true then (noX (e l1 p.2)).bind fun q => (compL tg c e lw ds q.2).bind fun t => .ok (q.1 :: t.1, t.2) else compL tg c e lw ds p.2
def wipeD (l : Dl) : List Nat → Dl
  | [] => l
  | v :: vs => (wipeD l vs).set v .no
def eComp (g : EM (List D)) (tg : D → Dl → Option Dl) (c : EM Bool) (e : EM D) (vs : List Nat) : EM D := fun l rw => (g l rw).bind fun p => if p.1.length ≤ sizeLine then (compL tg c e (wipeD l vs) p.1 p.2).bind fun q => .ok (.lst q.1, q.2) else .stuck
def cYes : EM Bool := fun _ rw => .ok (true, rw)
abbrev W0 : WD := fun _ _ _ => False
section
variable {K : PySem.W.Frag} {W : WD} {C : C0} {l : Dl} {rw : Rw} {σ : St} {H G H' G' : Hp}
theorem SR.wiped (S : SR K C l rw σ H G) : ∀ vs : List Nat, SR K C (wipeD l vs) rw (wipe σ vs) H G
  | [] => S
  | v :: vs => by
    have S1 := SR.wiped S vs
    unfold wipeD wipe
    have S2 : SR K C ((wipeD l vs).set v .no) rw (wipe σ vs) H G := S1.forget
    refine ⟨S2.sub, S2.fr, S2.ft, S2.tabs, S2.g0, S2.gn, S2.gt, by simp [S1.len], fun j x e => ?_, fun j k d' e' q hjk hj hk h1 h2 => ?_, S2.row⟩
    · by_cases h : v = j
      · subst h
        have hi : v < (wipeD l vs).length := by have := (List.getElem?_eq_some_iff.mp e).1; simpa using this
        rw [List.getElem?_set_self hi] at e
        cases e
        exact ⟨none, by rw [List.getElem?_set_self (by rw [S1.len]; exact hi)], trivial⟩
      · obtain ⟨u, e1, e2⟩ := S2.sl j x e
        exact ⟨u, by rw [List.getElem?_set_ne h]; exact e1, e2⟩
    · have n1 : v ≠ j := fun z => by
        subst z
        have hi : v < (wipeD l vs).length := by have := (List.getElem?_eq_some_iff.mp hj).1; simpa using this
        rw [List.getElem?_set_self hi] at hj; cases hj
      have n2 : v ≠ k := fun z => by
        subst z
        have hi : v < (wipeD l vs).length := by have := (List.getElem?_eq_some_iff.mp hk).1; simpa using this
        rw [List.getElem?_set_self hi] at hk; cases hk
      rw [List.getElem?_set_ne n1] at h1
      rw [List.getElem?_set_ne n2] at h2
      exact S2.ow j k d' e' q hjk hj hk h1 h2
theorem RowOk.updNe {r : Option Addr} {p : Addr} {o : HO} (w : RowOk K r rw H G) (hr : r ≠ some p) : RowOk K r rw (upd H p o) G := by
  unfold RowOk at w ⊢
  cases e : r with
  | none => rw [e] at w; cases rw <;> exact w
  | some a =>
    rw [e] at w
    cases rw with
    | none => exact w
    | some x =>
      obtain ⟨w1, v, w2, w3⟩ := w
      have ne : a ≠ p := fun z => hr (by rw [e, z])
      exact ⟨w1, v, by rw [upd_ne ne]; exact w2, w3⟩
/-- something in the heap that is not shown changes -/
theorem Gr.mutN {K : PySem.W.Frag} {r : Option Addr} {H1 G1 : Hp} {p : Addr} {o : HO} (g : Gr K r H G H1 G1) (hp : H p = none) (h1 : ∃ xs, H1 p = some (.lst xs)) (hg : G1 p = none) : Gr K r H G (upd H1 p o) G1 :=
  ⟨fun a u e ne nt => by rw [upd_ne (ne_of_none e hp)]; exact g.h a u e ne nt, g.g, g.n, fun a u e => by rw [upd_ne (ne_of_none e hg)]; exact g.s a u e, fun a u e => by
    rw [upd_ne (ne_of_none e hp)]; exact g.t a u e, g.tb.trans (TabR.put fun u e => by obtain ⟨xs, z⟩ := h1; rw [z] at e; cases e; exact nTE_lst)⟩
end
section
variable {X : Cx} {W : WD} {own : Bool}
/-- the body of the reading of a comprehension -/
theorem redLc {g : EM (List D)} {js : List Nat} {tg : D → Dl → Option Dl} {c : EM Bool} {e : EM D} {vs : List Nat} (hj : ∀ j ∈ js, j ∈ vs) :
    ∀ σ H Q, tO X.K W (eComp g tg c e vs) σ H Q → tLc (tI X.K W g) (tG X.K js tg) (tT X.K W0 c) (tD X.K W0 e) vs σ H Q := by
  intro σ H Q hq
  obtain ⟨C, l, rw, G, S, hp⟩ := hq
  refine seqI (P := POq X.K W C l σ H G Q) S hp (fun _ _ z => z) (fun z => z) fun ds rw1 J H1 G1 S1 s1 wd h1 => ?_
  dsimp only [POq] at h1
  by_cases hz : ds.length ≤ sizeLine
  case neg => rw [if_neg hz] at h1; exact h1.elim
  rw [if_pos hz] at h1
  intro D hD
  obtain ⟨hD0, hDr⟩ := S1.h0none hD
  have hDG := S1.gnone hD
  have HD0 : H D = none := by
    cases q : H D with
    | none => rfl
    | some o => obtain ⟨o', z⟩ := s1.t _ _ q; rw [hD] at z; cases z
  refine ⟨fun i m H2 => m = ds.length - i ∧ i ≤ ds.length ∧ ∃ rw2 G2 acc done, RowOk X.K C.r rw2 H2 G2 ∧ Gr X.K C.r H1 G1 H2 G2 ∧ G2 D = none ∧ H2 D = some (.lst acc) ∧ acc.length ≤ i ∧ Reps X.K C.r G2 done acc ∧
    OPost X.K W C l σ H G ((compL tg c e (wipeD l vs) (ds.drop i) rw2).bind fun q => .ok (.lst (done ++ q.1), q.2)) Q, ⟨ds.length, rfl, Nat.zero_le _, rw1, G1, [], [], ?_, Gr.newO S1.sub hD, hDG, upd_same, Nat.le_refl _, Reps.nil, ?_⟩, ?_⟩
  · exact (S1.newO (o := .lst []) hD).row
  · rw [List.drop_zero]; exact h1
  rintro i m H2 ⟨rfl, hi, rw2, G2, acc, done, w2, g2, hDG2, hD2, ha, hr, h2⟩
  have S2 : SR X.K C l rw2 σ H2 G2 := S1.grow g2 w2
  have sub2 : Same G1 H2 := g2.g.trans S2.sub
  by_cases hlt : i < ds.length
  · refine .inr ⟨wd.go i H2 sub2 hlt, ?_⟩
    have hd : ds.drop i = ds[i] :: ds.drop (i + 1) := List.drop_eq_getElem_cons hlt
    rw [hd] at h2
    unfold compL at h2
    cases q : tg ds[i] (wipeD l vs) with
    | none => rw [q] at h2; exact h2.elim
    | some l3 =>
      rw [q] at h2
      dsimp only at h2
      refine ⟨fun H' => ∃ rw2 G2 acc done, RowOk X.K C.r rw2 H' G2 ∧ Gr X.K C.r H1 G1 H' G2 ∧ G2 D = none ∧ H' D = some (.lst acc) ∧ acc.length ≤ i + 1 ∧ Reps X.K C.r G2 done acc ∧
        OPost X.K W C l σ H G ((compL tg c e (wipeD l vs) (ds.drop (i + 1)) rw2).bind fun q => .ok (.lst (done ++ q.1), q.2)) Q, fun H' hN => ⟨_, by omega, rfl, hlt, hN⟩, fun x H' y => ?_⟩
      obtain ⟨ey, r⟩ := wd.yld i H2 x H' sub2 y _ (List.getElem?_eq_getElem hlt)
      subst ey
      have S2w := S2.wiped vs
      refine ⟨C, wipeD l vs, rw2, G2, ds[i], l3, S2w, r.mono g2.g, q, fun σ' S' wj => ?_⟩
      have wp : ∀ (vs : List Nat) (σ : St), wipe (wipe σ vs) vs = wipe σ vs := by
        intro vs σ
        refine List.ext_getElem? fun j => ?_
        by_cases hv : j ∈ vs
        · by_cases hl : j < (wipe σ vs).length
          · have a1 : ∀ (τ : St), j < τ.length → (wipe τ vs)[j]? = some none := by
              intro τ hτ
              cases z : (wipe τ vs)[j]? with
              | none =>
                have := List.getElem?_eq_none_iff.mp z
                rw [wipe_length] at this; omega
              | some u =>
                cases u with
                | none => rfl
                | some v => exact absurd hv (wipe_some z).2
            rw [a1 _ hl, a1 _ (by rw [wipe_length] at hl; exact hl)]
          · rw [List.getElem?_eq_none (by rw [wipe_length]; omega), List.getElem?_eq_none (by omega)]
        · rw [wipe_out hv]
      refine ⟨by rw [wj vs hj, wp], ?_⟩
      refine ⟨C, l3, rw2, G2, S', ?_⟩
      have GRD : ∀ {H3 G3 : Hp}, Gr X.K C.r H' G2 H3 G3 → H3 D = some (.lst acc) ∧ G3 D = none := fun {H3 G3} g3 => by
        refine ⟨g3.h _ _ hD2 hDr nTb_lst, ?_⟩
        cases z : G3 D with
        | none => rfl
        | some o =>
          rcases g3.n _ _ z with z | ⟨z, _⟩
          · rw [hDG2] at z; cases z
          · rw [hD2] at z; cases z
      cases e1 : c l3 rw2 with
      | exc x w => rw [e1] at h2; exact h2.elim
      | stuck => rw [e1] at h2; exact h2.elim
      | ok p =>
        obtain ⟨b, rw3⟩ := p
        rw [e1] at h2
        intro H3 G3 S3 g3
        obtain ⟨hD3, hDG3⟩ := GRD g3
        replace h2 : OPost X.K W C l σ H G ((if b = true then (noX (e l3 rw3)).bind fun q => (compL tg c e (wipeD l vs) (ds.drop (i + 1)) q.2).bind fun t => .ok (q.1 :: t.1, t.2) else compL tg c e (wipeD l vs) (ds.drop (i + 1)) rw3).bind fun q => .ok (.lst (done ++ q.1), q.2)) Q := h2
        cases b with
        | false =>
          refine iteF ⟨rw3, G3, acc, done, S3.row, g2.trans g3, hDG3, hD3, by omega, hr.mono g3.g, ?_⟩
          simpa using h2
        | true =>
          refine iteT ?_
          rw [if_pos rfl] at h2
          refine ⟨C, l3, rw3, G3, S3, ?_⟩
          cases e2 : e l3 rw3 with
          | exc x w => rw [e2] at h2; exact h2.elim
          | stuck => rw [e2] at h2; exact h2.elim
          | ok p =>
            obtain ⟨d, rw4⟩ := p
            rw [e2] at h2
            intro v H4 G4 S4 g4 r4
            obtain ⟨hD4, hDG4⟩ := GRD (g3.trans g4)
            refine ⟨acc, hD4, by omega, rw4, G4, acc ++ [v], done ++ [d], ?_, ?_, hDG4, upd_same, by simp; omega, (hr.mono (g3.trans g4).g).append (Reps.cons r4 Reps.nil), ?_⟩
            · exact S4.row.updNe hDr
            · exact Gr.mutN ((g2.trans g3).trans g4) hD ⟨_, hD4⟩ hDG4
            · have : ∀ (q : R (List _root_.HD.D × Rw)), (((R.ok (d, rw4)).bind fun q => (compL tg c e (wipeD l vs) (ds.drop (i + 1)) q.2).bind fun t => .ok (q.1 :: t.1, t.2)).bind fun q => R.ok (_root_.HD.D.lst (done ++ q.1), q.2)) = (compL tg c e (wipeD l vs) (ds.drop (i + 1)) rw4).bind fun q => .ok (.lst (done ++ [d] ++ q.1), q.2) := by
                intro _
                show ((compL tg c e (wipeD l vs) (ds.drop (i + 1)) rw4).bind fun t => R.ok (d :: t.1, t.2)).bind _ = _
                cases compL tg c e (wipeD l vs) (ds.drop (i + 1)) rw4 with
                | ok p => simp [R.bind]
                | exc x w => rfl
                | stuck => rfl
              rw [← this .stuck]
              exact h2
  · have ei : i = ds.length := by omega
    subst ei
    rw [List.drop_length] at h2
    refine .inl ⟨wd.stop _ H2 sub2 (Nat.le_refl _), ?_⟩
    replace h2 : OPost X.K W C l σ H G (.ok (.lst (done ++ []), rw2)) Q := h2
    rw [List.append_nil] at h2
    exact h2 D H2 G2 S2 (s1.trans g2) HD0 ⟨D, rfl, hDG2, hD0, hDr, acc, hD2, by omega, hr⟩
end
end HD
end
section
/-! Rules of the data layer: comprehensions at their places, own things changed, borrowed; the row; calls; defs. -/
namespace HD
open PySem PySem.Spec L2
open PyProof.Rows hiding St

section
variable {X : Cx} {W : WD} {own : Bool}
theorem redFrz {K : PySem.W.Frag} {g : EM D} (hl : ∀ l rw d rw', g l rw = .ok (d, rw') → isDic d = false) : ∀ σ H Q, tD K W g σ H Q → tO K W g σ H Q := by
  intro σ H Q hq
  obtain ⟨C, l, rw, G, S, hp⟩ := hq
  refine ⟨C, l, rw, G, S, ?_⟩
  cases e1 : g l rw with
  | exc x w => rw [e1] at hp; exact hp
  | stuck => rw [e1] at hp; exact hp
  | ok p =>
    obtain ⟨d, rw'⟩ := p
    rw [e1] at hp
    intro p H' G' S' s f ow
    obtain ⟨G2, S2, g2, r2⟩ := redFrzL (hl _ _ _ _ e1) S S' s f ow
    exact hp (.ref p) H' G2 S2 g2 r2
theorem eComp_lst {g : EM (List D)} {tg : D → Dl → Option Dl} {c : EM Bool} {e : EM D} {vs : List Nat} : ∀ l rw d rw', eComp g tg c e vs l rw = .ok (d, rw') → isDic d = false := by
  intro l rw d rw' h
  unfold eComp at h
  cases e1 : g l rw with
  | exc x w => rw [e1] at h; cases h
  | stuck => rw [e1] at h; cases h
  | ok p =>
    rw [e1] at h
    have h : (if p.1.length ≤ sizeLine then (compL tg c e (wipeD l vs) p.1 p.2).bind fun q => .ok (D.lst q.1, q.2) else R.stuck) = .ok (d, rw') := h
    split at h
    case isFalse => cases h
    case isTrue =>
      cases e2 : compL tg c e (wipeD l vs) p.1 p.2 with
      | exc x w => rw [e2] at h; cases h
      | stuck => rw [e2] at h; cases h
      | ok q => rw [e2] at h; cases h; rfl
abbrev DTs (X : Cx) (W : WD) (ifs : List Expr) (g : EM Bool) : Prop := PTs X ifs (tT X.K W g)
theorem dts_nil : DTs X W [] cYes := ⟨fun pins s σ H Q I hq => by
  obtain ⟨C, l, rw, G, S, hp⟩ := hq
  exact pts_nil.run pins s σ H Q I (hp H G S (Gr.refl S.sub))⟩
theorem dts_one {c : Expr} {g : EM Bool} (h : DT X W c g) : DTs X W [c] g := pts_one h
/-- [elt for target in iter if ..]: a new list -/
theorem do_lc {elt tgt iter : Expr} {ifs : List Expr} {scope : Scope} {ow : List (Str × Nat)} {pos : Pos} {g : EM (List D)} {js : List Nat} {tg : D → Dl → Option Dl} {c : EM Bool} {e : EM D} (hc : X.calm = true) (hN : X.N.Nodup) (hi : DI X W tgt iter g) (ok : BlkOk X.N X.env.scope scope ow)
    (hj : ∀ j ∈ js, j ∈ ow.map (·.2))
    (hg : ∀ (s : Shared) (H : Hp) (Cc : Addr) (cl : List (Str × Addr)) (fp : List Addr), DG (X.blk s H scope (compEnvC scope cl Cc X.env) fp) tgt js tg)
    (ht : ∀ (s : Shared) (H : Hp) (Cc : Addr) (cl : List (Str × Addr)) (fp : List Addr), DTs (X.blk s H scope (compEnvC scope cl Cc X.env) fp) W0 ifs c)
    (he : ∀ (s : Shared) (H : Hp) (Cc : Addr) (cl : List (Str × Addr)) (fp : List Addr), DE (X.blk s H scope (compEnvC scope cl Cc X.env) fp) W0 elt e) (hs : ∀ x, foldedSetIterable iter X.env x = pure x := by intro _; rfl) :
    DO X W (.ListComp elt [⟨tgt, iter, ifs, 0⟩] scope pos) (eComp g tg c e (ow.map (·.2))) := pe_imp (pe_lc (wi := tI X.K W g) (g := tG X.K js tg) (tt := tT X.K W0 c) (te := tD X.K W0 e) hc hN hi ok hg ht he hs) (redLc hj)
theorem ds_setLc {i : Nat} {y : Str} {py : Pos} {elt tgt iter : Expr} {ifs : List Expr} {scope : Scope} {ow : List (Str × Nat)} {pos spos : Pos} {g : EM (List D)} {js : List Nat} {tg : D → Dl → Option Dl} {c : EM Bool} {e : EM D} (hc : X.calm = true) (hN : X.N.Nodup) (hy : X.N[i]? = some y) (hyl : X.env.scope.names.lookup y = some .local)
    (hsw : swapsWith (.ListComp elt [⟨tgt, iter, ifs, 0⟩] scope pos) (some (.Name y py)) spos.line X.env = pure true) (hi : DI X W tgt iter g) (ok : BlkOk X.N X.env.scope scope ow) (hj : ∀ j ∈ js, j ∈ ow.map (·.2))
    (hg : ∀ (s : Shared) (H : Hp) (Cc : Addr) (cl : List (Str × Addr)) (fp : List Addr), DG (X.blk s H scope (compEnvC scope cl Cc X.env) fp) tgt js tg)
    (ht : ∀ (s : Shared) (H : Hp) (Cc : Addr) (cl : List (Str × Addr)) (fp : List Addr), DTs (X.blk s H scope (compEnvC scope cl Cc X.env) fp) W0 ifs c)
    (he : ∀ (s : Shared) (H : Hp) (Cc : Addr) (cl : List (Str × Addr)) (fp : List Addr), DE (X.blk s H scope (compEnvC scope cl Cc X.env) fp) W0 elt e) (hs : ∀ x, foldedSetIterable iter X.env x = pure x := by intro _; rfl) :
    DS X W own (.Assign [.Name y py] (.ListComp elt [⟨tgt, iter, ifs, 0⟩] scope pos) spos) (sSet i (eComp g tg c e (ow.map (·.2)))) := by
  refine ps_imp (ps_setLc (wi := tI X.K W g) (g := tG X.K js tg) (tt := tT X.K W0 c) (te := tD X.K W0 e) hc hN hy hyl hsw hi ok hg ht he hs) fun E σ H hq => ?_
  refine redLc (W := W) hj σ H _ (redFrz eComp_lst σ H _ ?_)
  obtain ⟨C, l, rw, G, S, hp⟩ := hq
  exact seqD (P := PSq X.K W own C E) S hp (fun x w z H' G' S' => z l σ H' G' S') (fun z => z) fun d rw1 v H1 G1 S1 s1 r1 h1 => h1 _ H1 G1 (S1.setV r1)
theorem ds_setLcO {i : Nat} {y : Str} {py : Pos} {elt tgt iter : Expr} {ifs : List Expr} {scope : Scope} {ow : List (Str × Nat)} {pos spos : Pos} {g : EM (List D)} {js : List Nat} {tg : D → Dl → Option Dl} {c : EM Bool} {e : EM D} (hc : X.calm = true) (hN : X.N.Nodup) (hy : X.N[i]? = some y) (hyl : X.env.scope.names.lookup y = some .local)
    (hsw : swapsWith (.ListComp elt [⟨tgt, iter, ifs, 0⟩] scope pos) (some (.Name y py)) spos.line X.env = pure true) (hi : DI X W tgt iter g) (ok : BlkOk X.N X.env.scope scope ow) (hj : ∀ j ∈ js, j ∈ ow.map (·.2))
    (hg : ∀ (s : Shared) (H : Hp) (Cc : Addr) (cl : List (Str × Addr)) (fp : List Addr), DG (X.blk s H scope (compEnvC scope cl Cc X.env) fp) tgt js tg)
    (ht : ∀ (s : Shared) (H : Hp) (Cc : Addr) (cl : List (Str × Addr)) (fp : List Addr), DTs (X.blk s H scope (compEnvC scope cl Cc X.env) fp) W0 ifs c)
    (he : ∀ (s : Shared) (H : Hp) (Cc : Addr) (cl : List (Str × Addr)) (fp : List Addr), DE (X.blk s H scope (compEnvC scope cl Cc X.env) fp) W0 elt e) (hs : ∀ x, foldedSetIterable iter X.env x = pure x := by intro _; rfl) :
    DS X W own (.Assign [.Name y py] (.ListComp elt [⟨tgt, iter, ifs, 0⟩] scope pos) spos) (sSetO i (eComp g tg c e (ow.map (·.2)))) := by
  refine ps_imp (ps_setLc (wi := tI X.K W g) (g := tG X.K js tg) (tt := tT X.K W0 c) (te := tD X.K W0 e) hc hN hy hyl hsw hi ok hg ht he hs) fun E σ H hq => ?_
  refine redLc (W := W) hj σ H _ ?_
  obtain ⟨C, l, rw, G, S, hp⟩ := hq
  exact seqO (P := PSq X.K W own C E) S hp (fun x w z H' G' S' => z l σ H' G' S') (fun z => z) fun d rw1 p H1 G1 S1 s1 f r1 h1 => h1 _ H1 G1 (S1.setO r1 fun j e _ hj hz => S.ownNe f j e hj hz)

/-! ### an own thing changed by a method -/
def tyD : D → String → Bool
  | .lst _, T => T == "list"
  | .dic _ _, T => T == "dict"
  | _, _ => false
def sMut (T : String) (i : Nat) (f : D → List D → Option D) (g : EM (List D)) : SM := fun l rw => match l[i]? with
  | some (.own d) => if tyD d T = true then (g l rw).bind fun p => (match f d p.1 with
    | some d' => .ok (.next, l.set i (.own d'), p.2)
    | none => .stuck) else .stuck
  | _ => .stuck
/-- target = own.method(..) -/
def sMutG (T : String) (i : Nat) (f : D → List D → Option (D × D)) (g : EM (List D)) (tg : D → Dl → Option Dl) : SM := fun l rw => match l[i]? with
  | some (.own d) => if tyD d T = true then (g l rw).bind fun p => (match f d p.1 with
    | some q => (match tg q.2 (l.set i (.own q.1)) with
      | some l' => .ok (.next, l', p.2)
      | none => .stuck)
    | none => .stuck) else .stuck
  | _ => .stuck
def MutD (K : PySem.W.Frag) (r : V → List V → Hp → VK → Prop) (f : D → List D → Option D) : Prop := ∀ (o : Option Addr) (G H : Hp) (d : D) (ds : List D) (p : Addr) (ob : HO) (vs : List V) (d' : D) (Q : VK), Same G H → H p = some ob → ObjD K o G d ob → Reps K o G ds vs → f d ds = some d' →
  isLD d' = true ∧ ((∀ ob', ObjD K o G d' ob' → Q .non (upd H p ob')) → r (.ref p) vs H Q)
def MutG (K : PySem.W.Frag) (r : V → List V → Hp → VK → Prop) (f : D → List D → Option (D × D)) : Prop := ∀ (o : Option Addr) (G H : Hp) (d : D) (ds : List D) (p : Addr) (ob : HO) (vs : List V) (q : D × D) (Q : VK), Same G H → H p = some ob → ObjD K o G d ob → Reps K o G ds vs → f d ds = some q →
  isLD q.1 = true ∧ ((∀ v ob', Rep K o G q.2 v → ObjD K o G q.1 ob' → Q v (upd H p ob')) → r (.ref p) vs H Q)
theorem tyD_ok {K : PySem.W.Frag} {o : Option Addr} {G H : Hp} {p : Addr} {d : D} {ob : HO} {T : String} (h : H p = some ob) (hob : ObjD K o G d ob) (ht : tyD d T = true) : tyV K T (.ref p) H := by
  cases d with
  | lst ds =>
    obtain ⟨vs, rfl, _⟩ := hob
    have e : T = "list" := by simpa [tyD] using ht
    subst e
    exact .inl ⟨rfl, _, .inl (.inl h)⟩
  | dic ks ds =>
    obtain ⟨kvs, vs, rfl, _⟩ := hob
    have e : T = "dict" := by simpa [tyD] using ht
    subst e
    exact .inr (.inr (.inl ⟨rfl, .inl ⟨kvs, h⟩⟩))
  | _ => cases ht
theorem ds_mut {i : Nat} {st : Stmt} {T : String} {r : V → List V → Hp → VK → Prop} {f : D → List D → Option D} {g : EM (List D)} (hst : PS X st (tDrop (tBM X.K T r (tVar i) (tA X.K W g)))) (hf : MutD X.K r f) : DS X W own st (sMut T i f g) := by
  refine ps_imp hst fun E σ H hq => ?_
  obtain ⟨C, l, rw, G, S, hp⟩ := hq
  unfold sMut at hp
  cases e0 : l[i]? with
  | none => rw [e0] at hp; exact hp.elim
  | some x =>
    rw [e0] at hp
    cases x with
    | no => exact hp.elim
    | val d => exact hp.elim
    | own d =>
      dsimp only at hp
      by_cases ht : tyD d T = true
      case neg => rw [if_neg ht] at hp; exact hp.elim
      rw [if_pos ht] at hp
      obtain ⟨p, e1, ow⟩ := S.ownAt e0
      obtain ⟨o, ho, hob, _⟩ := ow.obj
      refine ⟨.ref p, e1, tyD_ok ho hob ht, ?_⟩
      refine seqA (P := PSq X.K W own C E) S hp (fun x w z H' G' S' => z l σ H' G' S') (fun z => z) fun ds rw1 vs H1 G1 S1 s1 r1 h1 => ?_
      dsimp only [PSq] at h1
      cases q : f d ds with
      | none => rw [q] at h1; exact h1.elim
      | some d' =>
        rw [q] at h1
        obtain ⟨p', e1', ow1⟩ := S1.ownAt e0
        rw [e1] at e1'; cases e1'
        obtain ⟨o1, ho1, hob1, _⟩ := ow1.obj
        obtain ⟨hd', k⟩ := hf C.r G1 H1 d ds p o1 vs d' _ S1.sub ho1 hob1 r1 q
        exact k fun ob' hob' => h1 σ _ G1 (S1.mutAt e0 e1 hd' hob')
theorem ds_mutG {i : Nat} {tgt e : Expr} {pos : Pos} {T : String} {r : V → List V → Hp → VK → Prop} {f : D → List D → Option (D × D)} {g : EM (List D)} {js : List Nat} {tg : D → Dl → Option Dl} (hst : PS X (.Assign [tgt] e pos) (tAsg (tBM X.K T r (tVar i) (tA X.K W g)) (tG X.K js tg))) (hf : MutG X.K r f) : DS X W own (.Assign [tgt] e pos) (sMutG T i f g tg) := by
  refine ps_imp hst fun E σ H hq => ?_
  obtain ⟨C, l, rw, G, S, hp⟩ := hq
  unfold sMutG at hp
  cases e0 : l[i]? with
  | none => rw [e0] at hp; exact hp.elim
  | some x =>
    rw [e0] at hp
    cases x with
    | no => exact hp.elim
    | val d => exact hp.elim
    | own d =>
      dsimp only at hp
      by_cases ht : tyD d T = true
      case neg => rw [if_neg ht] at hp; exact hp.elim
      rw [if_pos ht] at hp
      obtain ⟨p, e1, ow⟩ := S.ownAt e0
      obtain ⟨o, ho, hob, _⟩ := ow.obj
      refine ⟨.ref p, e1, tyD_ok ho hob ht, ?_⟩
      refine seqA (P := PSq X.K W own C E) S hp (fun x w z H' G' S' => z l σ H' G' S') (fun z => z) fun ds rw1 vs H1 G1 S1 s1 r1 h1 => ?_
      dsimp only [PSq] at h1
      cases q : f d ds with
      | none => rw [q] at h1; exact h1.elim
      | some d' =>
        rw [q] at h1
        dsimp only at h1
        cases q2 : tg d'.2 (l.set i (.own d'.1)) with
        | none => rw [q2] at h1; exact h1.elim
        | some l' =>
          rw [q2] at h1
          obtain ⟨p', e1', ow1⟩ := S1.ownAt e0
          rw [e1] at e1'; cases e1'
          obtain ⟨o1, ho1, hob1, _⟩ := ow1.obj
          obtain ⟨hd', k⟩ := hf C.r G1 H1 d ds p o1 vs d' (fun x H2 => tG X.K js tg x σ H2 E.nx) S1.sub ho1 hob1 r1 q
          exact k fun v ob' rv hob' => ⟨C, _, rw1, G1, d'.2, l', S1.mutAt e0 e1 hd' hob', rv, q2, fun σ' S' _ => h1 σ' _ G1 S'⟩
/-! the methods -/
def fAppend : D → List D → Option D
  | .lst ds, [d] => if ds.length < sizeLine then some (.lst (ds ++ [d])) else none
  | _, _ => none
theorem mut_append {K : PySem.W.Frag} : MutD K rAppend fAppend := by
  intro o G H d ds p ob vs d' Q s hp hob rv e
  unfold fAppend at e
  split at e
  case h_2 => cases e
  case h_1 xs y =>
    obtain ⟨us, rfl, h1, h2⟩ := hob
    unfold Reps at rv
    obtain ⟨v, t, rfl, r1, r2⟩ := rv
    unfold Reps at r2
    subst r2
    split at e
    case isFalse => cases e
    case isTrue hl =>
      cases e
      refine ⟨rfl, fun k => ⟨p, us, v, rfl, rfl, hp, by rw [← h2.length]; exact hl, k _ ⟨_, rfl, ?_, h2.append (Reps.cons r1 Reps.nil)⟩⟩⟩
      rw [List.length_append, List.length_singleton, ← h2.length]; omega
def fPop0 : D → List D → Option (D × D)
  | .lst (d :: ds), [.int 0] => some (.lst ds, d)
  | _, _ => none
theorem mut_pop0 {K : PySem.W.Frag} : MutG K rPopAt fPop0 := by
  intro o G H d ds p ob vs q Q s hp hob rv e
  unfold fPop0 at e
  split at e
  case h_2 => cases e
  case h_1 x xs =>
    cases e
    obtain ⟨us, rfl, h1, h2⟩ := hob
    have ev : vs = [.int 0] := Reps.ints (ns := [0]) rv
    subst ev
    unfold Reps at h2
    obtain ⟨v, t, rfl, r1, r2⟩ := h2
    refine ⟨rfl, fun k => ⟨p, v :: t, 0, 0, v, rfl, rfl, hp, by decide, by decide, ?_, rfl, ?_⟩⟩
    · unfold seqIndex?
      simp
    · exact k v _ r1 ⟨t, rfl, by simp at h1; omega, r2⟩
def fExtend : D → List D → Option D
  | .lst ds, [.lst es] => if ds.length + es.length ≤ sizeLine then some (.lst (ds ++ es)) else none
  | _, _ => none
theorem mut_extend {K : PySem.W.Frag} : MutD K rExtend fExtend := by
  intro o G H d ds p ob vs d' Q s hp hob rv e
  unfold fExtend at e
  split at e
  case h_2 => cases e
  case h_1 xs ys =>
    obtain ⟨us, rfl, h1, h2⟩ := hob
    unfold Reps at rv
    obtain ⟨v, t, rfl, r1, r2⟩ := rv
    unfold Reps at r2
    subst r2
    unfold Rep at r1
    obtain ⟨a, ws, rfl, g1, g2, g3⟩ := r1
    split at e
    case isFalse => cases e
    case isTrue hl =>
      cases e
      refine ⟨rfl, fun k => ⟨p, a, us, ws, rfl, rfl, hp, s _ _ g1, by rw [← h2.length, ← g3.length]; exact hl, k _ ⟨_, rfl, ?_, h2.append g3⟩⟩⟩
      rw [List.length_append, ← h2.length, ← g3.length]; exact hl

/-! ### an own thing looked at -/
def isSc : D → Bool
  | .non => true
  | .bl _ => true
  | .int _ => true
  | .str _ => true
  | _ => false
/-- the thing at i as a value for one look; what is told is a number, a text, a truth value, None -/
def eBor (i : Nat) (g : EM D) : EM D := fun l rw => match l[i]? with
  | some (.own (.lst ds)) => (noX (g (l.set i (.val (.lst ds))) rw)).bind fun p => if isSc p.1 = true then .ok p else .stuck
  | _ => .stuck
def tBor (i : Nat) (g : EM Bool) : EM Bool := fun l rw => match l[i]? with
  | some (.own (.lst ds)) => noX (g (l.set i (.val (.lst ds))) rw)
  | _ => .stuck
theorem sc_rep {K : PySem.W.Frag} {o : Option Addr} {G G' : Hp} {d : D} {v : V} (h : isSc d = true) (r : Rep K o G d v) : Rep K o G' d v := by
  cases d <;> first | (unfold Rep at r ⊢; exact r) | (cases h)
section
variable {K : PySem.W.Frag} {C : C0} {l : Dl} {rw rw' : Rw} {σ : St} {H G H' G' : Hp} {d : D} {o : HO} {p : Addr} {i : Nat}
theorem SR.lend (S : SR K C l rw σ H G) (e0 : l[i]? = some (.own d)) (hd : isDic d = false) : ∃ p o, σ[i]? = some (some (.ref p)) ∧ H p = some o ∧ G p = none ∧ C.r ≠ some p ∧ (∀ ob u, o ≠ .frz ob u) ∧ nTb o ∧ SR K C (l.set i (.val d)) rw σ H (upd G p o) := by
  obtain ⟨p, e1, ow⟩ := S.ownAt e0
  obtain ⟨o, ho, hob, hg, h0, hr, _, hf⟩ := ow.obj
  have S1 : SR K C (l.set i .no) rw σ H G := S.forget
  have nx : ∀ (j : Nat) e, (l.set i .no)[j]? = some (.own e) → σ[j]? ≠ some (some (.ref p)) := fun j e' hj hz => by
    by_cases h : i = j
    · subst h
      have hi : i < l.length := by have := (List.getElem?_eq_some_iff.mp hj).1; simpa using this
      rw [List.getElem?_set_self hi] at hj; cases hj
    · rw [List.getElem?_set_ne h] at hj
      exact S.ow i j d e' p h e0 hj e1 hz
  have S2 := (S1.freeze ho (fun ps z => ow.nTb (ho := ho) (.inl ⟨ps, z⟩)) hg h0 hr nx).setV (i := i) (hob.rep hg hd)
  rw [List.set_set] at S2
  have es : σ.set i (some (.ref p)) = σ := by
    refine List.ext_getElem? fun j => ?_
    by_cases h : i = j
    · subst h; rw [List.getElem?_set_self (List.getElem?_eq_some_iff.mp e1).1, e1]
    · rw [List.getElem?_set_ne h]
  rw [es] at S2
  exact ⟨p, o, e1, ho, hg, hr, hf, fun ps z => ow.nTb (ho := ho) (.inl ⟨ps, z⟩), S2⟩
def hide (G : Hp) (p : Addr) : Hp := fun a => if a = p then none else G a
theorem SR.back (S : SR K C l rw σ H G) (e0 : l[i]? = some (.own d)) (e1 : σ[i]? = some (some (.ref p))) (ho : H p = some o) (hg : G p = none) (hr : C.r ≠ some p) (hf : ∀ ob u, o ≠ .frz ob u) (nt : nTb o) (S' : SR K C (l.set i (.val d)) rw' σ H' G') (g : Gr K C.r H (upd G p o) H' G') :
    Gr K C.r H G H' (hide G' p) ∧ SR K C l rw' σ H' (hide G' p) := by
  have g' : Gr K C.r H G H' (hide G' p) := by
    refine ⟨g.h, fun a u e => ?_, fun a u e => ?_, fun a u e => ?_, g.t, g.tb⟩
    · have ne : a ≠ p := ne_of_none e hg
      unfold hide
      rw [if_neg ne]
      exact g.g a u (by rw [upd_ne ne]; exact e)
    · unfold hide at e
      by_cases ne : a = p
      · rw [if_pos ne] at e; cases e
      · rw [if_neg ne] at e
        rcases g.n a u e with z | z
        · rw [upd_ne ne] at z; exact .inl z
        · exact .inr z
    · unfold hide at e
      by_cases ne : a = p
      · rw [if_pos ne] at e; cases e
      · rw [if_neg ne] at e; exact g.s a u e
  refine ⟨g', S.grow g' ?_⟩
  have w := S'.row
  unfold RowOk at w ⊢
  cases e : C.r with
  | none => rw [e] at w; cases rw' <;> exact w
  | some a =>
    rw [e] at w
    cases rw' with
    | none => exact w
    | some x =>
      obtain ⟨w1, v, w2, w3⟩ := w
      refine ⟨?_, v, w2, ?_⟩
      · unfold hide; split <;> first | rfl | exact w1
      · unfold Rep at w3 ⊢
        obtain ⟨b, rfl, w4, w5⟩ := w3
        refine ⟨b, rfl, w4.imp (fun ⟨ob, q⟩ => ⟨ob, ?_⟩) id, w5⟩
        have ne : b ≠ p := fun z => by
          subst z
          have := g.h b o ho hr nt
          have q2 := S'.sub _ _ q
          rw [this] at q2
          exact hf _ _ (Option.some.inj q2)
        unfold hide
        rw [if_neg ne]
        exact q
end
theorem de_bor {i : Nat} {e : Expr} {g : EM D} (h : DE X W e g) : DE X W e (eBor i g) := by
  refine pe_imp h fun σ H Q hq => ?_
  obtain ⟨C, l, rw, G, S, hp⟩ := hq
  unfold eBor at hp
  cases e0 : l[i]? with
  | none => rw [e0] at hp; exact hp.elim
  | some x =>
    rw [e0] at hp
    cases x with
    | no => exact hp.elim
    | val d => exact hp.elim
    | own d =>
      cases d <;> first | exact hp.elim | skip
      rename_i ds
      have hd : isDic (.lst ds) = false := rfl
      dsimp only at hp
      obtain ⟨p, o, e1, ho, hg, hr, hf, nt, S1⟩ := S.lend e0 hd
      refine ⟨C, _, rw, _, S1, ?_⟩
      cases e2 : g (l.set i (.val (.lst ds))) rw with
      | exc x w => rw [e2] at hp; exact hp.elim
      | stuck => rw [e2] at hp; exact hp.elim
      | ok q =>
        obtain ⟨r, rw'⟩ := q
        rw [e2] at hp
        intro v H' G' S' g' rv
        replace hp : EPost X.K W C l σ H G (if isSc r = true then .ok (r, rw') else .stuck) Q := hp
        by_cases hs : isSc r = true
        · rw [if_pos hs] at hp
          obtain ⟨g2, S2⟩ := S.back e0 e1 ho hg hr hf nt S' g'
          exact hp v H' _ S2 g2 (sc_rep hs rv)
        · rw [if_neg hs] at hp; exact hp.elim
theorem dt_bor {i : Nat} {e : Expr} {g : EM Bool} (h : DT X W e g) : DT X W e (tBor i g) := by
  refine pt_imp h fun σ H Q hq => ?_
  obtain ⟨C, l, rw, G, S, hp⟩ := hq
  unfold tBor at hp
  cases e0 : l[i]? with
  | none => rw [e0] at hp; exact hp.elim
  | some x =>
    rw [e0] at hp
    cases x with
    | no => exact hp.elim
    | val d => exact hp.elim
    | own d =>
      cases d <;> first | exact hp.elim | skip
      rename_i ds
      have hd : isDic (.lst ds) = false := rfl
      dsimp only at hp
      obtain ⟨p, o, e1, ho, hg, hr, hf, nt, S1⟩ := S.lend e0 hd
      refine ⟨C, _, rw, _, S1, ?_⟩
      cases e2 : g (l.set i (.val (.lst ds))) rw with
      | exc x w => rw [e2] at hp; exact hp.elim
      | stuck => rw [e2] at hp; exact hp.elim
      | ok q =>
        obtain ⟨r, rw'⟩ := q
        rw [e2] at hp
        intro H' G' S' g'
        obtain ⟨g2, S2⟩ := S.back e0 e1 ho hg hr hf nt S' g'
        exact hp H' _ S2 g2
/-! tuple(own), list(own), own + .. -/
def eTupO (i : Nat) : EM D := fun l rw => match l[i]? with
  | some (.own (.lst ds)) => .ok (.tup ds, rw)
  | _ => .stuck
theorem de_tupO {i : Nat} {e : Expr} (h : PE X e (tCB (fun xs H Q => ∃ p ys, xs = [.ref p] ∧ ((SqL X.K H p ys ∧ ∀ l, H l = none → Q (.ref l) (upd H l (.tup ys))) ∨ (SqT X.K H p ys ∧ Q (.ref p) H))) (tCons (tVar i) tNil))) : DE X W e (eTupO i) := by
  refine pe_imp h fun σ H Q hq => ?_
  obtain ⟨C, l, rw, G, S, hp⟩ := hq
  unfold eTupO at hp
  split at hp
  case h_2 => exact hp.elim
  case h_1 ds e0 =>
    obtain ⟨p, e1, q, e2, hg, h0, hr, vs, a1, a2, a3⟩ := S.ownAt e0
    cases e2
    refine ⟨_, e1, p, vs, rfl, .inl ⟨.of a1, fun t ht => ?_⟩⟩
    exact hp (.ref t) _ _ (S.new ht) (Gr.new S.sub ht) (ObjD.rep (d := .tup ds) ⟨vs, rfl, a2, a3⟩ (S.gnone ht))
/-- own + list -/
def eCatO (i : Nat) (g : EM D) : EM D := fun l rw => match l[i]? with
  | some (.own (.lst ds)) => (g l rw).bind fun p => (match p.1 with
    | .lst es => if ds.length + es.length ≤ sizeLine then .ok (.lst (ds ++ es), p.2) else .stuck
    | _ => .stuck)
  | _ => .stuck
theorem de_catO {i : Nat} {e : Expr} {g : EM D} (h : PE X e (tOp rCat (tVar i) (tD X.K W g))) : DE X W e (eCatO i g) := by
  refine pe_imp h fun σ H Q hq => ?_
  obtain ⟨C, l, rw, G, S, hp⟩ := hq
  unfold eCatO at hp
  split at hp
  case h_2 => exact hp.elim
  case h_1 ds e0 =>
    obtain ⟨p, e1, _⟩ := S.ownAt e0
    refine ⟨_, e1, ?_⟩
    refine seqD (P := PEq X.K W C l σ H G Q) S hp (fun _ _ z => z) (fun z => z) fun d1 rw1 v1 H1 G1 S1 s1 r1 h1 => ?_
    obtain ⟨p', e1', q, e2, hg, h0, hr, vs, a1, a2, a3⟩ := S1.ownAt e0
    rw [e1] at e1'; cases e1'; cases e2
    dsimp only [PEq] at h1
    cases d1 with
    | lst es =>
      dsimp only at h1
      unfold Rep at r1
      obtain ⟨a, us, rfl, b1, b2, b3⟩ := r1
      by_cases hz : ds.length + es.length ≤ sizeLine
      · rw [if_pos hz] at h1
        have hz' : vs.length + us.length ≤ sizeLine := by rw [← a3.length, ← b3.length]; exact hz
        refine ⟨p, a, vs, us, rfl, rfl, a1, S1.sub _ _ b1, hz', fun t ht => ?_⟩
        exact h1 (.ref t) _ _ (S1.new ht) (s1.trans (Gr.new S1.sub ht)) (ObjD.rep (d := .lst (ds ++ es)) ⟨vs ++ us, rfl, by rw [List.length_append]; exact hz', a3.append b3⟩ (S1.gnone ht))
      · rw [if_neg hz] at h1; exact h1.elim
    | _ => exact h1.elim

/-! ### the row -/
/-- row[0], row[1], row[2] -/
def eRow (k : Nat) (i : Nat) : EM D := fun l rw => match l[i]?, rw with
  | some (.val .row), some w => (match k with
    | 0 => .ok (.scr w.ns, rw)
    | 1 => .ok (.int w.ix, rw)
    | 2 => .ok (.int w.mx, rw)
    | _ => .stuck)
  | _, _ => .stuck
theorem de_row {i k : Nat} {e : Expr} (h : PE X e (tOp (rIxL X.K) (tVar i) (tC (.int (k : Int))))) : DE X W e (eRow k i) := by
  refine pe_imp h fun σ H Q hq => ?_
  obtain ⟨C, l, rw, G, S, hp⟩ := hq
  unfold eRow at hp
  cases e0 : l[i]? with
  | none => rw [e0] at hp; exact hp.elim
  | some x =>
    rw [e0] at hp
    cases x with
    | no => exact hp.elim
    | own d => exact hp.elim
    | val d =>
      cases d with
      | row =>
        cases rw with
        | none => exact hp.elim
        | some w =>
          dsimp only at hp
          obtain ⟨v, e1, u, e2, r⟩ := S.sl i _ e0
          subst e2
          unfold Rep at r
          obtain ⟨a, ea, rfl⟩ := r
          have wr := S.row
          unfold RowOk at wr
          rw [ea] at wr
          obtain ⟨w1, v, w2, w3⟩ := wr
          refine ⟨_, e1, a, _, k, ?_, rfl, rfl, .of w2, ?_⟩
          · exact match k with
              | 0 => v
              | 1 => .int w.ix
              | _ => .int w.mx
          · match k, hp with
            | 0, hp => exact ⟨atI_nat rfl, hp v H G S (Gr.refl S.sub) (by rw [ea]; exact w3)⟩
            | 1, hp => exact ⟨atI_nat rfl, hp _ H G S (Gr.refl S.sub) (by unfold Rep; rfl)⟩
            | 2, hp => exact ⟨atI_nat rfl, hp _ H G S (Gr.refl S.sub) (by unfold Rep; rfl)⟩
            | k + 3, hp => exact hp.elim
      | _ => exact hp.elim
/-- row[1] = .., row[2] = .. -/
def sRow (k : Nat) (i : Nat) (g : EM D) : SM := fun l rw => (g l rw).bind fun p => match l[i]?, p.2, p.1 with
  | some (.val .row), some w, .int z => (match k with
    | 1 => .ok (.next, l, some { w with ix := z })
    | 2 => .ok (.next, l, some { w with mx := z })
    | _ => .stuck)
  | _, _, _ => .stuck
theorem ds_row {i k : Nat} {st : Stmt} {g : EM D} (h : PS X st (tAsg (tD X.K W g) (gSub (tVar i) (tC (.int (k : Int))) rSetL))) : DS X W own st (sRow k i g) := by
  refine ps_imp h fun E σ H hq => ?_
  obtain ⟨C, l, rw, G, S, hp⟩ := hq
  refine seqD (P := PSq X.K W own C E) S hp (fun x w z H' G' S' => z l σ H' G' S') (fun z => z) fun d rw1 v H1 G1 S1 s1 r1 h1 => ?_
  dsimp only [PSq] at h1
  cases e0 : l[i]? with
  | none => rw [e0] at h1; exact h1.elim
  | some x =>
    rw [e0] at h1
    cases x with
    | no => exact h1.elim
    | own d => exact h1.elim
    | val d0 =>
      cases d0 with
      | row =>
        cases rw1 with
        | none => exact h1.elim
        | some w =>
          cases d with
          | int z =>
            dsimp only at h1
            unfold Rep at r1
            subst r1
            obtain ⟨v, e1, u, e2, r⟩ := S1.sl i _ e0
            subst e2
            unfold Rep at r
            obtain ⟨a, ea, rfl⟩ := r
            have wr := S1.row
            unfold RowOk at wr
            rw [ea] at wr
            obtain ⟨w1, v, w2, w3⟩ := wr
            have key : ∀ ix mx, SR X.K C l (some ⟨w.ns, ix, mx⟩) σ (upd H1 a (.lst [v, .int ix, .int mx])) G1 := fun ix mx => by
              refine S1.grow ⟨fun b o e ne _ => ?_, Same.refl _, fun b o e => .inl e, fun b o e => ?_, fun b o e => ?_, TabR.put fun u e => by rw [w2] at e; cases e; exact nTE_lst⟩ ?_
              · rw [upd_ne (fun z => ne (by rw [ea, z]))]; exact e
              · rw [upd_ne (ne_of_none e w1)]; exact S1.sub _ _ e
              · by_cases hb : b = a
                · subst hb; exact ⟨_, upd_same⟩
                · exact ⟨o, by rw [upd_ne hb]; exact e⟩
              · unfold RowOk
                rw [ea]
                exact ⟨w1, v, upd_same, w3⟩
            match k, h1 with
            | 1, h1 => exact ⟨_, e1, a, _, 1, 1, rfl, rfl, w2, rfl, h1 σ _ _ (key z w.mx)⟩
            | 2, h1 => exact ⟨_, e1, a, _, 2, 2, rfl, rfl, w2, rfl, h1 σ _ _ (key w.ix z)⟩
            | 0, h1 => exact h1.elim
            | k + 3, h1 => exact h1.elim
          | _ => exact h1.elim
      | _ => exact h1.elim
end
end HD
end
section
/-! The data layer: defs and their calls. -/
namespace HD
open PySem PySem.Spec L2
open PyProof.Rows hiding St

/-- what a def tells of given trees: n parameters, m names -/
def dDef (own : Bool) (n m : Nat) (body : SM) : FD := fun ds rw => if ds.length = n then (body (ds.map .val ++ List.replicate (m - n) .no) rw).bind fun p => match p.1 with
  | .ret d => .ok (d, p.2.2)
  | .next => if own = true then .stuck else .ok (.non, p.2.2)
  | _ => .stuck else .stuck
def FRet (K : PySem.W.Frag) (own : Bool) (r : Option Addr) (H H' G' : Hp) (d : D) (v : V) : Prop :=
  if own = true then ∃ p o, v = .ref p ∧ H p = none ∧ H' p = some o ∧ G' p = none ∧ ObjD K r G' d o ∧ isLD d = true else Rep K r G' d v
/-- the tables, the row -/
structure RowT (K : PySem.W.Frag) (r : Option Addr) (rw : Rw) (H G : Hp) : Prop where
  t : LamX.Tabs (tabT K) H
  w : RowOk K r rw H G
  g : ∀ a o, G a = some o → nTb o
/-- how an exception is wished for -/
abbrev XW := XK → Exn → Hp → Prop
abbrev XW0 : XW := fun _ _ _ => False
def FPost (K : PySem.W.Frag) (own : Bool) (xw : XW) (r : Option Addr) (H G : Hp) (q : R (D × Rw)) (Q : VK) (E : XK) : Prop :=
  match q with
  | .ok (d, rw') => ∀ v H' G', Gr K r H G H' G' → RowT K r rw' H' G' → FRet K own r H H' G' d v → Q v H'
  | .exc x rw' => ∀ H' G', Gr K r H G H' G' → RowT K r rw' H' G' → xw E x H'
  | .stuck => False
def spD (K : PySem.W.Frag) (own : Bool) (xw : XW) (F : FD) : Sp := fun vs H Q E => ∃ r G ds rw, Same G H ∧ Reps K r G ds vs ∧ RowT K r rw H G ∧ FPost K own xw r H G (F ds rw) Q E

theorem SR.start {K : PySem.W.Frag} {r : Option Addr} {G H : Hp} {ds : List D} {vs : List V} {rw : Rw} {N : List Str} {n : Nat} (s : Same G H) (q : Reps K r G ds vs) (w : RowT K r rw H G) (hn : ds.length = n) : SR K ⟨r, H, G⟩ (ds.map .val ++ List.replicate (N.length - n) .no) rw (start N vs) H G := by
  have hl := q.length
  have lookup : ∀ (i : Nat) x, (ds.map Sl.val ++ List.replicate (N.length - n) Sl.no)[i]? = some x → (∃ d, ds[i]? = some d ∧ x = .val d) ∨ (x = .no ∧ ds.length ≤ i ∧ i - ds.length < N.length - n) := fun i x e => by
    by_cases h : i < ds.length
    · rw [List.getElem?_append_left (by simpa using h), List.getElem?_map, List.getElem?_eq_getElem h] at e
      cases e
      exact .inl ⟨_, List.getElem?_eq_getElem h, rfl⟩
    · rw [List.getElem?_append_right (by simpa using h), List.getElem?_replicate] at e
      split at e
      · cases e
        rename_i hlt
        exact .inr ⟨rfl, by omega, by simpa using hlt⟩
      · cases e
  refine ⟨s, fun a o e _ _ => e, fun a o e => ⟨o, e⟩, w.t, Same.refl _, fun a o e => .inl e, w.g, ?_, fun i x e => ?_, fun i j d e p hij hi hj _ => ?_, w.w⟩
  · unfold L2.start
    simp
    omega
  · rcases lookup i x e with ⟨d, hd, rfl⟩ | ⟨rfl, h1, h2⟩
    · obtain ⟨v, hv, rv⟩ := q.get hd
      refine ⟨some v, ?_, v, rfl, rv⟩
      unfold L2.start
      rw [List.getElem?_append_left (by rw [List.length_map]; exact (List.getElem?_eq_some_iff.mp hv).1), List.getElem?_map, hv]
      rfl
    · refine ⟨none, ?_, trivial⟩
      unfold L2.start
      rw [List.getElem?_append_right (by rw [List.length_map, ← hl]; exact h1), List.getElem?_replicate, if_pos]
      rw [List.length_map, ← hl, hn]
      omega
  · rcases lookup i _ hi with ⟨_, _, z⟩ | ⟨z, _⟩ <;> cases z
theorem SR.gr {K : PySem.W.Frag} {r : Option Addr} {G H H' G' : Hp} {l : Dl} {rw rw0 : Rw} {σ : St} (w0 : RowT K r rw0 H G) (S : SR K ⟨r, H, G⟩ l rw σ H' G') : Gr K r H G H' G' := by
  exact ⟨fun a o e ne nt => S.fr a o e ne nt, S.g0, fun a o e => (S.gn a o e).imp id fun z => ⟨z, S.gt a o e⟩, S.sub, fun a o e => S.ft a o e, fun _ => S.tabs⟩

section
variable {P : Program} {w : World} {K : PySem.W.Frag} {mg : Str → Option Value} {base : Heap} {x qual : Str} {params : Arguments} {body : List Stmt} {scope : Scope} {dvs : List V} {kws : List (Str × V)} {f : Addr} {fd : FuncData}
theorem own_fret {C : C0} {H H' G' : Hp} {own : Bool} {d : D} {v : V} (h0 : C.H0 = H) (r : RetRep K own C H' G' d v) : FRet K own C.r H H' G' d v := by
  subst h0
  unfold RetRep at r
  unfold FRet
  cases own with
  | false => exact r
  | true =>
    simp only [if_true] at r ⊢
    obtain ⟨p, rfl, _⟩ := id r
    obtain ⟨o, h1, h2, h3, h4, h5, h6, _⟩ := r.obj
    exact ⟨p, o, rfl, h4, h1, h3, h2, h6⟩
theorem sp_start {own : Bool} {n : Nat} {N : List Str} {den : SM} {xw : XW} {W : WD} {vs : List V} {H : Hp} {Q : VK} {E : XK} {t : TS} (ht : ∀ (E' : Ends) σ H', tS K W own den E' σ H' → t E' σ H') (hW : ∀ x σ H', (W x σ H' ↔ xw E x H'))
    (h : spD K own xw (dDef own n N.length den) vs H Q E) : t { nx := fun _ H' => Q .non H', rt := Q } (start N vs) H := by
  obtain ⟨r, G, ds, rw, s, q, wr, hp⟩ := h
  unfold dDef at hp
  by_cases hn : ds.length = n
  case neg => rw [if_neg hn] at hp; exact hp.elim
  rw [if_pos hn] at hp
  refine ht _ _ _ ⟨⟨r, H, G⟩, _, rw, G, SR.start s q wr hn, ?_⟩
  cases e : den (ds.map .val ++ List.replicate (N.length - n) .no) rw with
  | stuck => rw [e] at hp; exact hp.elim
  | exc x w => rw [e] at hp; exact fun l' σ' H' G' S' => (hW x σ' H').mpr (hp H' G' (S'.gr wr) ⟨S'.tabs, S'.row, S'.gt⟩)
  | ok p =>
    obtain ⟨fl, l', rw'⟩ := p
    rw [e] at hp
    cases fl with
    | brk => exact hp.elim
    | cont => exact hp.elim
    | ret d => exact fun v σ' H' G' S' rr => hp v H' G' (S'.gr wr) ⟨S'.tabs, S'.row, S'.gt⟩ (own_fret (C := ⟨r, H, G⟩) rfl rr)
    | next =>
      intro σ' H' G' S'
      cases own with
      | true => exact hp.elim
      | false => exact hp .non H' G' (S'.gr wr) ⟨S'.tabs, S'.row, S'.gt⟩ (by unfold FRet; rw [if_neg Bool.false_ne_true]; unfold Rep; rfl)
theorem sp_len {own : Bool} {n m : Nat} {den : SM} {xw : XW} {vs : List V} {H : Hp} {Q : VK} {E : XK} (h : spD K own xw (dDef own n m den) vs H Q E) : vs.length = n := by
  obtain ⟨r, G, ds, rw, s, q, wr, hp⟩ := h
  rw [← q.length]
  unfold dDef at hp
  by_cases hn : ds.length = n
  · exact hn
  · rw [if_neg hn] at hp; exact hp.elim
/-- a def that lets nothing out -/
theorem fn_den {own : Bool} {N ps : List Str} {k : Nat} {den : SM} (F : FunD K x qual params body scope dvs kws f fd) (S : FnScope N ps scope)
    (hb : ∀ (cdv : Value) (A : Around) (outer : List Env) (s : Shared) (H : Hp) (E : XK), Room k (A.deeper (envOfC qual scope s.heap.objs.size f cdv)) → DSs (cxOf (fun _ _ _ _ _ _ => False) P w K mg base N qual scope f cdv A outer s H E).nox W0 own body den) :
    FnOk P w K mg base (fun _ _ _ _ _ _ => False) (k + 1) f fd ps (spD K own XW0 (dDef own ps.length N.length den)) :=
  F.ok S (fun vs H Q E h => sp_len h) fun cdv A outer s H vs Q E hr h => ⟨_, PSs.nox (hb cdv A outer s H E hr), sp_start (fun _ _ _ z => z) (fun _ _ _ => Iff.rfl) h⟩
end

/-! ### calls -/
def eCall (F : FD) (g : EM (List D)) : EM D := fun l rw => (g l rw).bind fun p => F p.1 p.2
section
variable {X : Cx} {W : WD}
theorem redCall {F : FD} {g : EM (List D)} {xw : XW} {E : XK} (hx : ∀ x σ H, W x σ H → xw E x H) : ∀ σ H Q, tD X.K W (eCall F g) σ H Q → tCall (spD X.K false xw F) [] E (tA X.K W g) σ H Q := by
  intro σ H Q hq
  obtain ⟨C, l, rw, G, S, hp⟩ := hq
  refine seqA (P := PEq X.K W C l σ H G Q) S hp (fun _ _ z => z) (fun z => z) fun ds rw1 vs H1 G1 S1 s1 r1 h1 => ?_
  dsimp only [PEq] at h1
  refine ⟨C.r, G1, ds, rw1, S1.sub, by rw [List.append_nil]; exact r1, ⟨S1.tabs, S1.row, S1.gt⟩, ?_⟩
  cases e : F ds rw1 with
  | stuck => rw [e] at h1; exact h1.elim
  | exc x w =>
    rw [e] at h1
    exact fun H' G' g' w' => hx x σ H' (h1 H' G' (S1.grow g' w'.w))
  | ok p =>
    obtain ⟨d, rw'⟩ := p
    rw [e] at h1
    intro v H' G' g' w' rr
    unfold FRet at rr
    rw [if_neg Bool.false_ne_true] at rr
    exact h1 v H' G' (S1.grow g' w'.w) (s1.trans g') rr
theorem redCallO {F : FD} {g : EM (List D)} {xw : XW} {E : XK} (hx : ∀ x σ H, W x σ H → xw E x H) : ∀ σ H Q, tO X.K W (eCall F g) σ H Q → tCall (spD X.K true xw F) [] E (tA X.K W g) σ H Q := by
  intro σ H Q hq
  obtain ⟨C, l, rw, G, S, hp⟩ := hq
  refine seqA (P := POq X.K W C l σ H G Q) S hp (fun _ _ z => z) (fun z => z) fun ds rw1 vs H1 G1 S1 s1 r1 h1 => ?_
  dsimp only [POq] at h1
  refine ⟨C.r, G1, ds, rw1, S1.sub, by rw [List.append_nil]; exact r1, ⟨S1.tabs, S1.row, S1.gt⟩, ?_⟩
  cases e : F ds rw1 with
  | stuck => rw [e] at h1; exact h1.elim
  | exc x w =>
    rw [e] at h1
    exact fun H' G' g' w' => hx x σ H' (h1 H' G' (S1.grow g' w'.w))
  | ok p =>
    obtain ⟨d, rw'⟩ := p
    rw [e] at h1
    intro v H' G' g' w' rr
    unfold FRet at rr
    rw [if_pos rfl] at rr
    obtain ⟨p, o, rfl, hp1, ho, hg, hob, hd⟩ := rr
    obtain ⟨h0, hr⟩ := S1.h0none hp1
    refine h1 p H' G' (S1.grow g' w'.w) (s1.trans g') ?_ ⟨p, rfl, hg, h0, hr, ?_⟩
    · cases q : H p with
      | none => rfl
      | some o => obtain ⟨o', z⟩ := s1.t _ _ q; rw [hp1] at z; cases z
    · cases d with
      | lst ds => obtain ⟨vs, rfl, b1, b2⟩ := hob; exact ⟨vs, ho, b1, b2⟩
      | dic ks ds => obtain ⟨kvs, vs, rfl, b1, b2, b3, b4⟩ := hob; exact ⟨kvs, vs, ho, b1, b2, b3, b4⟩
      | _ => cases hd
section
variable {k : Nat} {f : Addr} {fd : FuncData} {ps : List Str} {F : FD} {x : Str} {p pos : Pos} {e : Expr} {es : List Expr} {g : EM (List D)}
/-- f(a, ..), a def that lets nothing out -/
theorem de_call (Fo : FnOk X.prog X.w X.K X.mg X.base (fun _ _ _ _ _ _ => False) k f fd ps (spD X.K false XW0 F)) (hr : Room k X.A) (hg : Gl X x) (hm : X.mg x = some (.ref f)) (hk : PySem.W.keepIn X.K (.ref f) = true) (hb : Binds X.K fd ps [])
    (ha : DA X W0 (e :: es) g) (hdb : (x == ("__debug__" : Str)) = false := by decide) (he : starEach (e :: es) X.env = (false, eval e X.env) :: starEach es X.env := by rfl) (hpl : (backTo pos (starEach es X.env)).any (·.1) = false := by rfl) :
    DE X W0 (.Call (.Name x p) (e :: es) [] pos) (eCall F g) := pe_imp (pe_call Fo hr hg hm hk hb .nil (E := fun _ _ _ => False) (fun _ _ _ _ _ _ _ h => h.elim) ha hdb he hpl) (redCall fun _ _ _ z => z)
theorem do_call (Fo : FnOk X.prog X.w X.K X.mg X.base (fun _ _ _ _ _ _ => False) k f fd ps (spD X.K true XW0 F)) (hr : Room k X.A) (hg : Gl X x) (hm : X.mg x = some (.ref f)) (hk : PySem.W.keepIn X.K (.ref f) = true) (hb : Binds X.K fd ps [])
    (ha : DA X W0 (e :: es) g) (hdb : (x == ("__debug__" : Str)) = false := by decide) (he : starEach (e :: es) X.env = (false, eval e X.env) :: starEach es X.env := by rfl) (hpl : (backTo pos (starEach es X.env)).any (·.1) = false := by rfl) :
    DO X W0 (.Call (.Name x p) (e :: es) [] pos) (eCall F g) := pe_imp (pe_call Fo hr hg hm hk hb .nil (E := fun _ _ _ => False) (fun _ _ _ _ _ _ _ h => h.elim) ha hdb he hpl) (redCallO fun _ _ _ z => z)
end
end
end HD
end
section
/-! The data layer: what operators and built-ins tell. -/
namespace HD
open PySem PySem.Spec L2
open PyProof.Rows hiding St

theorem OpD.or {K : PySem.W.Frag} {r r' : R2} {f g h : D → D → Option D} (hf : OpD K r f) (hg : OpD K r' g) (i : ∀ x y d, h x y = some d → f x y = some d ∨ g x y = some d) : OpD K (fun x y H Q => r x y H Q ∨ r' x y H Q) h := by
  intro o G H d1 d2 v1 v2 d Q s r1 r2 e q
  rcases i _ _ _ e with e | e
  · exact .inl (hf o G H d1 d2 v1 v2 d Q s r1 r2 e q)
  · exact .inr (hg o G H d1 d2 v1 v2 d Q s r1 r2 e q)
theorem CmpD.or {K : PySem.W.Frag} {r r' : R2} {f g h : D → D → Option D} (hf : CmpD K r f) (hg : CmpD K r' g) (i : ∀ x y d, h x y = some d → f x y = some d ∨ g x y = some d) : CmpD K (fun x y H Q => r x y H Q ∨ r' x y H Q) h := by
  intro o G H d1 d2 v1 v2 d Q s r1 r2 e q
  rcases i _ _ _ e with e | e
  · exact .inl (hf o G H d1 d2 v1 v2 d Q s r1 r2 e q)
  · exact .inr (hg o G H d1 d2 v1 v2 d Q s r1 r2 e q)
theorem OpD.imp {K : PySem.W.Frag} {r : R2} {f g : D → D → Option D} (h : OpD K r f) (i : ∀ x y d, g x y = some d → f x y = some d) : OpD K r g := fun o G H d1 d2 v1 v2 d Q s r1 r2 e q => h o G H d1 d2 v1 v2 d Q s r1 r2 (i _ _ _ e) q

/-! ### arithmetic -/
def fAddI : D → D → Option D
  | .int i, .int j => some (.int (i + j))
  | _, _ => none
def fAddS : D → D → Option D
  | .str i, .str j => if i.length + j.length ≤ sizeLine then some (.str (i ++ j)) else none
  | _, _ => none
def fAddT : D → D → Option D
  | .tup i, .tup j => if i.length + j.length ≤ sizeLine then some (.tup (i ++ j)) else none
  | _, _ => none
def fAddL : D → D → Option D
  | .lst i, .lst j => if i.length + j.length ≤ sizeLine then some (.lst (i ++ j)) else none
  | _, _ => none
def fAdd : D → D → Option D
  | .int i, .int j => some (.int (i + j))
  | .str i, .str j => if i.length + j.length ≤ sizeLine then some (.str (i ++ j)) else none
  | .tup i, .tup j => if i.length + j.length ≤ sizeLine then some (.tup (i ++ j)) else none
  | .lst i, .lst j => if i.length + j.length ≤ sizeLine then some (.lst (i ++ j)) else none
  | _, _ => none
def fSub : D → D → Option D
  | .int i, .int j => some (.int (i - j))
  | _, _ => none
theorem small64' {j : Int} (h : -1000000000000 ≤ j ∧ j ≤ 1000000000000) : -(2 ^ 64) < j ∧ j < 2 ^ 64 := ⟨Int.lt_of_lt_of_le (by decide) h.1, Int.lt_of_le_of_lt h.2 (by decide)⟩
theorem small63' {j : Int} (h : -1000000000000 ≤ j ∧ j ≤ 1000000000000) : -(2 ^ 63) ≤ j ∧ j < 2 ^ 63 := ⟨Int.le_trans (by decide) h.1, Int.lt_of_le_of_lt h.2 (by decide)⟩
def fMulI : D → D → Option D
  | .int i, .int j => if -1000000000000 ≤ j ∧ j ≤ 1000000000000 then some (.int (i * j)) else none
  | _, _ => none
def fMulL : D → D → Option D
  | .lst xs, .int k => if (-1000000000000 ≤ k ∧ k ≤ 1000000000000) ∧ xs.length * k.toNat ≤ sizeLine then some (.lst (List.replicate k.toNat xs).flatten) else none
  | _, _ => none
def fMul : D → D → Option D
  | .int i, .int j => if -1000000000000 ≤ j ∧ j ≤ 1000000000000 then some (.int (i * j)) else none
  | .lst xs, .int k => if (-1000000000000 ≤ k ∧ k ≤ 1000000000000) ∧ xs.length * k.toNat ≤ sizeLine then some (.lst (List.replicate k.toNat xs).flatten) else none
  | _, _ => none
def fMod : D → D → Option D
  | .int i, .int j => if 0 < j then some (.int (i % j)) else none
  | _, _ => none
def fFdiv : D → D → Option D
  | .int i, .int j => if 0 < j ∧ j < 1073741824 then some (.int (i / j)) else none
  | _, _ => none
section
variable {K : PySem.W.Frag}
theorem o_addI : OpD K (rI0 fun i j => .int (i + j)) fAddI := by
  intro o G H d1 d2 v1 v2 d Q s r1 r2 e q
  unfold fAddI at e
  split at e
  case h_2 => cases e
  case h_1 i j =>
    cases e
    unfold Rep at r1 r2
    subst r1 r2
    exact ⟨i, j, rfl, rfl, q _ H G (Same.refl _) (Gr.refl s) (by unfold Rep; rfl)⟩
theorem o_sub : OpD K (rI0 fun i j => .int (i - j)) fSub := by
  intro o G H d1 d2 v1 v2 d Q s r1 r2 e q
  unfold fSub at e
  split at e
  case h_2 => cases e
  case h_1 i j =>
    cases e
    unfold Rep at r1 r2
    subst r1 r2
    exact ⟨i, j, rfl, rfl, q _ H G (Same.refl _) (Gr.refl s) (by unfold Rep; rfl)⟩
theorem o_mulI : OpD K (rI CMul fun i j => .int (i * j)) fMulI := by
  intro o G H d1 d2 v1 v2 d Q s r1 r2 e q
  unfold fMulI at e
  split at e
  case h_2 => cases e
  case h_1 i j =>
    split at e
    case isFalse => cases e
    case isTrue hc =>
      cases e
      unfold Rep at r1 r2
      subst r1 r2
      exact ⟨i, j, rfl, rfl, .inr (small64' hc), q _ H G (Same.refl _) (Gr.refl s) (by unfold Rep; rfl)⟩
theorem o_mod : OpD K (rI (fun _ j => 0 < j) fun i j => .int (i % j)) fMod := by
  intro o G H d1 d2 v1 v2 d Q s r1 r2 e q
  unfold fMod at e
  split at e
  case h_2 => cases e
  case h_1 i j =>
    split at e
    case isFalse => cases e
    case isTrue hc =>
      cases e
      unfold Rep at r1 r2
      subst r1 r2
      exact ⟨i, j, rfl, rfl, hc, q _ H G (Same.refl _) (Gr.refl s) (by unfold Rep; rfl)⟩
theorem o_fdiv : OpD K (rI CDiv fun i j => .int (i / j)) fFdiv := by
  intro o G H d1 d2 v1 v2 d Q s r1 r2 e q
  unfold fFdiv at e
  split at e
  case h_2 => cases e
  case h_1 i j =>
    split at e
    case isFalse => cases e
    case isTrue hc =>
      cases e
      unfold Rep at r1 r2
      subst r1 r2
      exact ⟨i, j, rfl, rfl, hc, q _ H G (Same.refl _) (Gr.refl s) (by unfold Rep; rfl)⟩
theorem o_addS : OpD K (fun x y H Q => ∃ i j, x = .str i ∧ y = .str j ∧ i.length + j.length ≤ sizeLine ∧ Q (.str (i ++ j)) H) fAddS := by
  intro o G H d1 d2 v1 v2 d Q s r1 r2 e q
  unfold fAddS at e
  split at e
  case h_2 => cases e
  case h_1 i j =>
    split at e
    case isFalse => cases e
    case isTrue hc =>
      cases e
      unfold Rep at r1 r2
      subst r1 r2
      exact ⟨i, j, rfl, rfl, hc, q _ H G (Same.refl _) (Gr.refl s) (by unfold Rep; rfl)⟩
theorem gnone_of {G H : Hp} (s : Same G H) {p : Addr} (h : H p = none) : G p = none := L2.Same.free s h
theorem o_addL : OpD K rCat fAddL := by
  intro o G H d1 d2 v1 v2 d Q s r1 r2 e q
  unfold fAddL at e
  split at e
  case h_2 => cases e
  case h_1 xs ys =>
    split at e
    case isFalse => cases e
    case isTrue hc =>
      cases e
      unfold Rep at r1 r2
      obtain ⟨a, us, rfl, a1, a2, a3⟩ := r1
      obtain ⟨b, ws, rfl, b1, b2, b3⟩ := r2
      have hz : us.length + ws.length ≤ sizeLine := by rw [← a3.length, ← b3.length]; exact hc
      exact ⟨a, b, us, ws, rfl, rfl, s _ _ a1, s _ _ b1, hz, fun p hp => q _ _ _ (fun c u e => by rw [upd_ne (ne_of_none e hp)]; exact e) (Gr.new s hp)
        (ObjD.rep (d := .lst (xs ++ ys)) ⟨us ++ ws, rfl, by rw [List.length_append]; exact hz, a3.append b3⟩ (gnone_of s hp))⟩
theorem Reps.nil_iff {o : Option Addr} {G : Hp} {ds : List D} {vs : List V} (h : Reps K o G ds vs) : ds = [] ↔ vs = [] := by
  have hl := h.length
  constructor
  · intro e; subst e; exact List.length_eq_zero_iff.mp hl.symm
  · intro e; subst e; exact List.length_eq_zero_iff.mp hl
theorem o_addT : OpD K (rCatA K) fAddT := by
  intro o G H d1 d2 v1 v2 d Q s r1 r2 e q
  unfold fAddT at e
  split at e
  case h_2 => cases e
  case h_1 xs ys =>
    split at e
    case isFalse => cases e
    case isTrue hc =>
      cases e
      unfold Rep at r1 r2
      obtain ⟨a, us, rfl, a1, a2, a3⟩ := r1
      obtain ⟨b, ws, rfl, b1, b2, b3⟩ := r2
      have hz : us.length + ws.length ≤ sizeLine := by rw [← a3.length, ← b3.length]; exact hc
      refine ⟨a, b, us, ws, rfl, rfl, Same.seqT s a1, Same.seqT s b1, hz, fun h0 => ?_, fun _ h0 => ?_, fun _ _ p hp => ?_⟩
      · have e0 : xs = [] := a3.nil_iff.mpr h0
        subst e0
        exact q _ H G (Same.refl _) (Gr.refl s) (by unfold Rep; exact ⟨b, ws, rfl, b1, b2, b3⟩)
      · have e0 : ys = [] := b3.nil_iff.mpr h0
        subst e0
        exact q _ H G (Same.refl _) (Gr.refl s) (by unfold Rep; rw [List.append_nil]; exact ⟨a, us, rfl, a1, a2, a3⟩)
      · exact q _ _ _ (fun c u e => by rw [upd_ne (ne_of_none e hp)]; exact e) (Gr.new s hp) (ObjD.rep (d := .tup (xs ++ ys)) ⟨us ++ ws, rfl, by rw [List.length_append]; exact hz, a3.append b3⟩ (gnone_of s hp))
theorem o_mulL : OpD K rRep fMulL := by
  intro o G H d1 d2 v1 v2 d Q s r1 r2 e q
  unfold fMulL at e
  split at e
  case h_2 => cases e
  case h_1 xs k =>
    split at e
    case isFalse => cases e
    case isTrue hc =>
      cases e
      unfold Rep at r1 r2
      obtain ⟨a, us, rfl, a1, a2, a3⟩ := r1
      subst r2
      have hz : us.length * k.toNat ≤ sizeLine := by rw [← a3.length]; exact hc.2
      have rr : ∀ n : Nat, Reps K o G (List.replicate n xs).flatten (List.replicate n us).flatten := by
        intro n
        induction n with
        | zero => exact Reps.nil
        | succ n ih => rw [List.replicate_succ, List.replicate_succ, List.flatten_cons, List.flatten_cons]; exact a3.append ih
      have hlen : ((List.replicate k.toNat us).flatten).length ≤ sizeLine := by
        rw [List.length_flatten, List.map_replicate, List.sum_replicate_nat, Nat.mul_comm]; exact hz
      exact ⟨a, k, us, rfl, rfl, s _ _ a1, (small63' hc.1).1, (small63' hc.1).2, hz, fun p hp => q _ _ _ (fun c u e => by rw [upd_ne (ne_of_none e hp)]; exact e) (Gr.new s hp)
        (ObjD.rep (d := .lst (List.replicate k.toNat xs).flatten) ⟨_, rfl, hlen, rr _⟩ (gnone_of s hp))⟩
end
section
variable {X : Cx}
def rAdd4 (K : PySem.W.Frag) : R2 := fun x y H Q => rI0 (fun i j => .int (i + j)) x y H Q ∨ ((∃ i j, x = .str i ∧ y = .str j ∧ i.length + j.length ≤ sizeLine ∧ Q (.str (i ++ j)) H) ∨ (rCatA K x y H Q ∨ rCat x y H Q))
theorem op_add4 : OpR X (binaryOp .Add) (rAdd4 X.K) := op_add.or (op_add_str.or (op_catA.or op_cat))
theorem o_add {K : PySem.W.Frag} : OpD K (rAdd4 K) fAdd := by
  refine OpD.or o_addI (OpD.or (h := fun x y => match x, y with | .int _, _ => none | _, _ => fAdd x y) o_addS (OpD.or (h := fun x y => match x, y with | .int _, _ => none | .str _, _ => none | _, _ => fAdd x y) o_addT o_addL ?_) ?_) ?_
  all_goals (intro x y d e; cases x <;> cases y <;> simp [fAdd, fAddI, fAddS, fAddT, fAddL] at e ⊢ <;> first | exact e | exact .inl e | exact .inr e | skip)
def rMul2 : R2 := fun x y H Q => rI CMul (fun i j => .int (i * j)) x y H Q ∨ rRep x y H Q
theorem op_mul2 : OpR X (binaryOp .Mult) rMul2 := op_mul.or op_rep
theorem o_mul {K : PySem.W.Frag} : OpD K rMul2 fMul := by
  refine OpD.or o_mulI o_mulL ?_
  intro x y d e; cases x <;> cases y <;> simp [fMul, fMulI, fMulL] at e ⊢ <;> exact e
end
/-! ### order of numbers -/
def fCmp (p : Int → Int → Bool) : D → D → Option D
  | .int i, .int j => some (.bl (p i j))
  | _, _ => none
theorem c_int {K : PySem.W.Frag} (p : Int → Int → Bool) : CmpD K (rI0 fun i j => .bl (p i j)) (fCmp p) := by
  intro o G H d1 d2 v1 v2 d Q s r1 r2 e q
  unfold fCmp at e
  split at e
  case h_2 => cases e
  case h_1 i j =>
    cases e
    unfold Rep at r1 r2
    subst r1 r2
    exact ⟨i, j, rfl, rfl, q _ (by unfold Rep; rfl)⟩
abbrev fLt := fCmp fun i j => decide (i < j)
abbrev fLe := fCmp fun i j => decide (i ≤ j)
abbrev fGt := fCmp fun i j => decide (j < i)
abbrev fGe := fCmp fun i j => decide (j ≤ i)

/-! ### equal things -/
mutual
def toPy : D → PyData
  | .non => .none
  | .bl b => .bool b
  | .int i => .int i
  | .str x => .str x
  | .tup xs => .tuple (toPys xs)
  | .lst xs => .list (toPys xs)
  | _ => .none
def toPys : List D → List PyData
  | [] => []
  | d :: ds => toPy d :: toPys ds
end
/-- plain things of a depth -/
def fit : Nat → D → Bool
  | _, .non => true
  | _, .bl _ => true
  | _, .int _ => true
  | _, .str x => PyData.strOk x
  | n + 1, .tup xs => xs.all (fit n)
  | n + 1, .lst xs => xs.all (fit n)
  | _, _ => false
def eqD (d e : D) : Bool := PyData.eqv (toPy d) (toPy e)
theorem toPys_map : ∀ xs : List D, toPys xs = xs.map toPy
  | [] => by simp [toPys]
  | x :: xs => by simp [toPys, toPys_map xs]
theorem fit_ok : ∀ (n : Nat) (d : D), fit n d = true → (toPy d).canLay0 = true ∧ (toPy d).depth ≤ n := by
  intro n
  induction n with
  | zero =>
    intro d h
    cases d <;> simp [fit] at h <;> simp [toPy, PyData.canLay0, PyData.depth] <;> exact h
  | succ n ih =>
    intro d h
    have all : ∀ xs : List D, xs.all (fit n) = true → PyData.canLayAll0 (toPys xs) = true ∧ PyData.depthAll (toPys xs) ≤ n := by
      intro xs
      induction xs with
      | nil => intro _; simp [toPys, PyData.canLayAll0, PyData.depthAll]
      | cons x xs ihx =>
        intro hx
        have hx' : fit n x = true ∧ xs.all (fit n) = true := by simpa using hx
        obtain ⟨h1, h2⟩ := ih x hx'.1
        obtain ⟨h3, h4⟩ := ihx hx'.2
        simp only [toPys, PyData.canLayAll0, PyData.depthAll, h1, h3, Bool.and_self, true_and]
        omega
    cases d with
    | tup xs => obtain ⟨h1, h2⟩ := all xs h; simp only [toPy, PyData.canLay0, PyData.depth]; exact ⟨h1, by omega⟩
    | lst xs => obtain ⟨h1, h2⟩ := all xs h; simp only [toPy, PyData.canLay0, PyData.depth]; exact ⟨h1, by omega⟩
    | str x => simp only [fit] at h; simp only [toPy, PyData.canLay0, PyData.depth]; exact ⟨h, by omega⟩
    | non => simp [toPy, PyData.canLay0, PyData.depth]
    | bl _ => simp [toPy, PyData.canLay0, PyData.depth]
    | int _ => simp [toPy, PyData.canLay0, PyData.depth]
    | _ => cases h
theorem fit_shaped {n : Nat} {d : D} (hn : n ≤ 64) (h : fit n d = true) : SeqAt.shaped (toPy d) = true := by
  obtain ⟨h1, h2⟩ := fit_ok n d h
  unfold SeqAt.shaped
  rw [h1, Bool.true_and]
  exact decide_eq_true (by omega)
theorem dp_of {K : PySem.W.Frag} {o : Option Addr} {G H : Hp} (s : Same G H) : ∀ (n : Nat) (d : D) (v : V), fit n d = true → Rep K o G d v → Dp K H v (toPy d) := by
  intro n
  induction n with
  | zero =>
    intro d v h r
    cases d <;> simp [fit] at h <;> unfold Rep at r <;> subst r <;> simp only [toPy] <;> constructor
  | succ n ih =>
    intro d v h r
    have all : ∀ (xs : List D) (vs : List V), xs.all (fit n) = true → Reps K o G xs vs → DpAll K H vs (toPys xs) := by
      intro xs
      induction xs with
      | nil => intro vs _ r; unfold Reps at r; subst r; simp only [toPys]; exact .nil
      | cons x xs ihx =>
        intro vs hx r
        unfold Reps at r
        obtain ⟨v, t, rfl, r1, r2⟩ := r
        have hx' : fit n x = true ∧ xs.all (fit n) = true := by simpa using hx
        simp only [toPys]
        exact .cons (ih x v hx'.1 r1) (ihx t hx'.2 r2)
    cases d with
    | tup xs =>
      unfold Rep at r
      obtain ⟨a, vs, rfl, a1, a2, a3⟩ := r
      simp only [toPy]
      exact .tup (Same.seqT s a1) (all xs vs h a3)
    | lst xs =>
      unfold Rep at r
      obtain ⟨a, vs, rfl, a1, a2, a3⟩ := r
      simp only [toPy]
      exact .lst (.of (s _ _ a1)) (all xs vs h a3)
    | str x => unfold Rep at r; subst r; simp only [toPy]; exact .str x
    | non => unfold Rep at r; subst r; simp only [toPy]; exact .non
    | bl b => unfold Rep at r; subst r; simp only [toPy]; exact .bl b
    | int i => unfold Rep at r; subst r; simp only [toPy]; exact .int i
    | _ => cases h
def fEq (d e : D) : Option D := if fit 8 d = true ∧ fit 8 e = true then some (.bl (eqD d e)) else none
def fNe (d e : D) : Option D := if fit 8 d = true ∧ fit 8 e = true then some (.bl (!eqD d e)) else none
theorem c_eq {K : PySem.W.Frag} : CmpD K (rEqD K) fEq := by
  intro o G H d1 d2 v1 v2 d Q s r1 r2 e q
  unfold fEq at e
  split at e
  case isFalse => cases e
  case isTrue h =>
    cases e
    exact ⟨toPy d1, toPy d2, dp_of s 8 _ _ h.1 r1, dp_of s 8 _ _ h.2 r2, fit_shaped (by decide) h.1, fit_shaped (by decide) h.2, q _ (by unfold Rep; rfl)⟩
theorem c_ne {K : PySem.W.Frag} : CmpD K (rNeD K) fNe := by
  intro o G H d1 d2 v1 v2 d Q s r1 r2 e q
  unfold fNe at e
  split at e
  case isFalse => cases e
  case isTrue h =>
    cases e
    exact ⟨toPy d1, toPy d2, dp_of s 8 _ _ h.1 r1, dp_of s 8 _ _ h.2 r2, fit_shaped (by decide) h.1, fit_shaped (by decide) h.2, q _ (by unfold Rep; rfl)⟩
/-! ### in -/
def flatD : D → Bool
  | .non => true
  | .bl _ => true
  | .int _ => true
  | .str _ => true
  | _ => false
def eqF : D → D → Bool
  | .non, .non => true
  | .bl a, .bl b => a == b
  | .bl a, .int b => (if a then 1 else 0) == b
  | .int a, .bl b => a == (if b then 1 else 0)
  | .int a, .int b => a == b
  | .str a, .str b => a == b
  | _, _ => false
theorem flat_v {K : PySem.W.Frag} {o : Option Addr} {G : Hp} {d : D} {v : V} (h : flatD d = true) (r : Rep K o G d v) : flatV v = true := by
  cases d <;> first | (unfold Rep at r; subst r; rfl) | cases h
theorem eqF_v {K : PySem.W.Frag} {o : Option Addr} {G : Hp} {d e : D} {v u : V} (h : flatD d = true) (h' : flatD e = true) (r : Rep K o G d v) (r' : Rep K o G e u) : eqV v u = eqF d e := by
  cases d <;> first | (cases h; done) | (cases e <;> first | (unfold Rep at r r'; subst r r'; rfl) | (cases h'; done))
theorem flats_v {K : PySem.W.Frag} {o : Option Addr} {G : Hp} : ∀ {ds : List D} {vs : List V}, ds.all flatD = true → Reps K o G ds vs → vs.all flatV = true
  | [], _, _, r => by unfold Reps at r; subst r; rfl
  | d :: ds, vs, h, r => by
    unfold Reps at r
    obtain ⟨v, t, rfl, r1, r2⟩ := r
    have h' : flatD d = true ∧ ds.all flatD = true := by simpa using h
    simp only [List.all_cons, flat_v h'.1 r1, flats_v h'.2 r2, Bool.and_self]
theorem anyF_v {K : PySem.W.Frag} {o : Option Addr} {G : Hp} {x : D} {u : V} (hx : flatD x = true) (rx : Rep K o G x u) : ∀ {ds : List D} {vs : List V}, ds.all flatD = true → Reps K o G ds vs → inV u vs = ds.any fun y => eqF y x
  | [], _, _, r => by unfold Reps at r; subst r; rfl
  | d :: ds, vs, h, r => by
    unfold Reps at r
    obtain ⟨v, t, rfl, r1, r2⟩ := r
    have h' : flatD d = true ∧ ds.all flatD = true := by simpa using h
    show (eqV v u || inV u t) = _
    rw [eqF_v h'.1 hx r1 rx, anyF_v hx rx h'.2 r2]
    rfl
def seqOf : D → Option (List D)
  | .lst xs => some xs
  | .tup xs => some xs
  | _ => none
def fInF (neg : Bool) (x y : D) : Option D := match seqOf y with
  | some ds => if flatD x = true ∧ ds.all flatD = true then some (.bl (if neg = true then !ds.any (fun y => eqF y x) else ds.any fun y => eqF y x)) else none
  | none => none
theorem c_inF {K : PySem.W.Frag} {neg : Bool} : CmpD K (rIn K neg) (fInF neg) := by
  intro o G H d1 d2 v1 v2 d Q s r1 r2 e q
  unfold fInF at e
  have main : ∀ (ds : List D) (vs : List V) (p : Addr), (SqL K H p vs ∨ SqT K H p vs) → v2 = .ref p → Reps K o G ds vs → (if flatD d1 = true ∧ ds.all flatD = true then some (D.bl (if neg = true then !ds.any (fun y => eqF y d1) else ds.any fun y => eqF y d1)) else none) = some d → rIn K neg v1 v2 H Q := by
    intro ds vs p hs hp rr e
    split at e
    case isFalse => cases e
    case isTrue h =>
      cases e
      refine ⟨p, vs, hp, hs, flat_v h.1 r1, flats_v h.2 rr, ?_⟩
      rw [anyF_v h.1 r1 h.2 rr]
      exact q _ (by unfold Rep; cases neg <;> rfl)
  cases d2 with
  | lst ds =>
    unfold Rep at r2
    obtain ⟨a, vs, rfl, a1, a2, a3⟩ := r2
    exact main ds vs a (.inl (.of (s _ _ a1))) rfl a3 e
  | tup ds =>
    unfold Rep at r2
    obtain ⟨a, vs, rfl, a1, a2, a3⟩ := r2
    exact main ds vs a (.inr (Same.seqT s a1)) rfl a3 e
  | _ => cases e
def fInD (neg : Bool) : D → D → Option D
  | x, .lst ds => if fit 8 x = true ∧ fit 8 (.lst ds) = true then some (.bl (if neg = true then !ds.any (fun y => eqD y x) else ds.any fun y => eqD y x)) else none
  | _, _ => none
theorem any_py {x : D} : ∀ ds : List D, (toPys ds).any (fun z => PyData.eqv z (toPy x)) = ds.any fun y => eqD y x
  | [] => by simp [toPys]
  | d :: ds => by simp only [toPys, List.any_cons, any_py ds]; rfl
theorem c_inD {K : PySem.W.Frag} : CmpD K (rInD K) (fInD false) := by
  intro o G H d1 d2 v1 v2 d Q s r1 r2 e q
  unfold fInD at e
  split at e
  case h_2 => cases e
  case h_1 x ds =>
    split at e
    case isFalse => cases e
    case isTrue h =>
      cases e
      refine ⟨toPy d1, toPys ds, dp_of s 8 _ _ h.1 r1, ?_, fit_shaped (by decide) h.1, ?_, ?_⟩
      · have := dp_of s 8 _ _ h.2 r2; simpa only [toPy] using this
      · have := fit_shaped (d := .lst ds) (by decide) h.2; simpa only [toPy] using this
      · rw [any_py]; exact q _ (by unfold Rep; rfl)
theorem c_notInD {K : PySem.W.Frag} : CmpD K (rNotInD K) (fInD true) := by
  intro o G H d1 d2 v1 v2 d Q s r1 r2 e q
  unfold fInD at e
  split at e
  case h_2 => cases e
  case h_1 x ds =>
    split at e
    case isFalse => cases e
    case isTrue h =>
      cases e
      refine ⟨toPy d1, toPys ds, dp_of s 8 _ _ h.1 r1, ?_, fit_shaped (by decide) h.1, ?_, ?_⟩
      · have := dp_of s 8 _ _ h.2 r2; simpa only [toPy] using this
      · have := fit_shaped (d := .lst ds) (by decide) h.2; simpa only [toPy] using this
      · rw [any_py]; exact q _ (by unfold Rep; rfl)
def fIn (neg : Bool) (x y : D) : Option D := match fInF neg x y with
  | some d => some d
  | none => fInD neg x y
section
variable {X : Cx}
theorem op_in2 (hu : X.A.units + 65 < cLine) : OpR X (compareOp .In) (fun x y H Q => rIn X.K false x y H Q ∨ rInD X.K x y H Q) := op_in_seq.or (op_inD hu)
theorem op_notIn2 (hu : X.A.units + 65 < cLine) : OpR X (compareOp .NotIn) (fun x y H Q => rIn X.K true x y H Q ∨ rNotInD X.K x y H Q) := op_notIn_seq.or (op_notInD hu)
theorem c_in {K : PySem.W.Frag} : CmpD K (fun x y H Q => rIn K false x y H Q ∨ rInD K x y H Q) (fIn false) := CmpD.or c_inF c_inD fun x y d e => by
  unfold fIn at e
  cases q : fInF false x y with
  | some z => rw [q] at e; exact .inl e
  | none => rw [q] at e; exact .inr e
theorem c_notIn {K : PySem.W.Frag} : CmpD K (fun x y H Q => rIn K true x y H Q ∨ rNotInD K x y H Q) (fIn true) := CmpD.or c_inF c_notInD fun x y d e => by
  unfold fIn at e
  cases q : fInF true x y with
  | some z => rw [q] at e; exact .inl e
  | none => rw [q] at e; exact .inr e
end
/-! ### items -/
def dLook : List Int → List D → Int → Option D
  | k :: ks, d :: ds, j => if k = j then some d else dLook ks ds j
  | _, _, _ => none
def fIx : D → D → Option D
  | .lst xs, .int i => atI xs i
  | .tup xs, .int i => atI xs i
  | .str z, .int i => if z.length ≤ sizeLine then (atI z.cps.toList i).map fun c => .str ⟨#[c]⟩ else none
  | .scr ns, .int i => (atI ns i).map .int
  | _, _ => none
theorem Reps.atI {K : PySem.W.Frag} {o : Option Addr} {G : Hp} {ds : List D} {vs : List V} {i : Int} {d : D} (r : Reps K o G ds vs) (h : atI ds i = some d) : ∃ v, atI vs i = some v ∧ Rep K o G d v := by
  unfold L2.atI at h ⊢
  rw [← r.length]
  cases e : ixN ds.length i with
  | none => rw [e] at h; cases h
  | some j =>
    rw [e] at h
    exact r.get h
theorem atI_map {α β : Type} {f : α → β} {xs : List α} {i : Int} {y : α} (h : atI xs i = some y) : atI (xs.map f) i = some (f y) := by
  unfold L2.atI at h ⊢
  rw [List.length_map]
  cases e : ixN xs.length i with
  | none => rw [e] at h; cases h
  | some j =>
    rw [e] at h
    simp only [Option.bind_some] at h ⊢
    rw [List.getElem?_map, h]
    rfl
theorem scr_seq {K : PySem.W.Frag} {o : Option Addr} {G H : Hp} {ns : List Int} {v : V} (s : Same G H) (r : Rep K o G (.scr ns) v) : ∃ a, v = .ref a ∧ SqL K H a (ns.map V.int) ∧ ns.length ≤ sizeLine := by
  unfold Rep at r
  obtain ⟨a, rfl, h, hl⟩ := r
  refine ⟨a, rfl, ?_, hl⟩
  rcases h with ⟨ob, h⟩ | (h | ⟨ob, h⟩) | h
  · exact .inl (.inr ⟨ob, s _ _ h⟩)
  · cases h
  · cases h
  · exact .inr h
theorem o_ix {K : PySem.W.Frag} : OpD K (rIx K) fIx := by
  intro o G H d1 d2 v1 v2 d Q s r1 r2 e q
  unfold fIx at e
  split at e
  case h_5 => cases e
  case h_1 xs i =>
    unfold Rep at r1 r2
    obtain ⟨a, vs, rfl, a1, a2, a3⟩ := r1
    subst r2
    obtain ⟨v, h1, h2⟩ := a3.atI e
    exact .inl ⟨a, vs, i, v, rfl, rfl, .of (s _ _ a1), h1, q v H G (Same.refl _) (Gr.refl s) h2⟩
  case h_2 xs i =>
    unfold Rep at r1 r2
    obtain ⟨a, vs, rfl, a1, a2, a3⟩ := r1
    subst r2
    obtain ⟨v, h1, h2⟩ := a3.atI e
    exact .inr (.inl ⟨a, vs, i, v, rfl, rfl, Same.seqT s a1, h1, q v H G (Same.refl _) (Gr.refl s) h2⟩)
  case h_3 z i =>
    unfold Rep at r1 r2
    subst r1 r2
    split at e
    case isFalse => cases e
    case isTrue hz =>
      cases h : L2.atI z.cps.toList i with
      | none => rw [h] at e; cases e
      | some c =>
        rw [h] at e
        cases e
        exact .inr (.inr ⟨z, i, c, rfl, rfl, hz, h, q _ H G (Same.refl _) (Gr.refl s) (by unfold Rep; rfl)⟩)
  case h_4 ns i =>
    obtain ⟨a, rfl, h1, h2⟩ := scr_seq s r1
    unfold Rep at r2
    subst r2
    cases h : L2.atI ns i with
    | none => rw [h] at e; cases e
    | some c =>
      rw [h] at e
      cases e
      exact .inl ⟨a, _, i, .int c, rfl, rfl, h1, atI_map h, q _ H G (Same.refl _) (Gr.refl s) (by unfold Rep; rfl)⟩
/-! ### built-ins -/
def fLen : List D → Option D
  | [.lst xs] => some (.int xs.length)
  | [.tup xs] => some (.int xs.length)
  | [.scr ns] => some (.int ns.length)
  | [.str x] => if x.length ≤ sizeLine then some (.int x.length) else none
  | _ => none
theorem reps1 {K : PySem.W.Frag} {o : Option Addr} {G : Hp} {d : D} {vs : List V} (r : Reps K o G [d] vs) : ∃ v, vs = [v] ∧ Rep K o G d v := by
  unfold Reps at r
  obtain ⟨v, t, rfl, r1, r2⟩ := r
  unfold Reps at r2
  subst r2
  exact ⟨v, rfl, r1⟩
theorem reps2 {K : PySem.W.Frag} {o : Option Addr} {G : Hp} {d e : D} {vs : List V} (r : Reps K o G [d, e] vs) : ∃ v u, vs = [v, u] ∧ Rep K o G d v ∧ Rep K o G e u := by
  unfold Reps at r
  obtain ⟨v, t, rfl, r1, r2⟩ := r
  obtain ⟨u, rfl, r3⟩ := reps1 r2
  exact ⟨v, u, rfl, r1, r3⟩
theorem a_len {K : PySem.W.Frag} : ArD K (fun xs H Q => ∃ x n, xs = [x] ∧ LenV K x H n ∧ Q (.int n) H) fLen := by
  intro o G H ds vs d Q s r e q
  unfold fLen at e
  split at e
  case h_5 => cases e
  case h_1 xs =>
    cases e
    obtain ⟨v, rfl, r1⟩ := reps1 r
    replace r := r1
    clear r1
    unfold Rep at r
    obtain ⟨a, us, rfl, a1, a2, a3⟩ := r
    exact ⟨_, xs.length, rfl, .inl ⟨us, .of (s _ _ a1), a3.length⟩, q _ H G (Same.refl _) (Gr.refl s) (by unfold Rep; rfl)⟩
  case h_2 xs =>
    cases e
    obtain ⟨v, rfl, r1⟩ := reps1 r
    replace r := r1
    clear r1
    unfold Rep at r
    obtain ⟨a, us, rfl, a1, a2, a3⟩ := r
    exact ⟨_, xs.length, rfl, .inr ⟨us, Same.seqT s a1, a3.length⟩, q _ H G (Same.refl _) (Gr.refl s) (by unfold Rep; rfl)⟩
  case h_3 ns =>
    cases e
    obtain ⟨v, rfl, r1⟩ := reps1 r
    replace r := r1
    clear r1
    obtain ⟨a, rfl, h1, h2⟩ := scr_seq s r
    exact ⟨_, ns.length, rfl, .inl ⟨_, h1, by simp⟩, q _ H G (Same.refl _) (Gr.refl s) (by unfold Rep; rfl)⟩
  case h_4 x =>
    split at e
    case isFalse => cases e
    case isTrue hz =>
      cases e
      obtain ⟨v, rfl, r1⟩ := reps1 r
      unfold Rep at r1
      subst r1
      exact ⟨_, x.length, rfl, ⟨hz, rfl⟩, q _ H G (Same.refl _) (Gr.refl s) (by unfold Rep; rfl)⟩
/-- list(xs), a new list -/
def fList : List D → Option D
  | [.lst xs] => some (.lst xs)
  | [.tup xs] => some (.lst xs)
  | _ => none
theorem a_list {K : PySem.W.Frag} : ArN K (fun xs H Q => ∃ p ys, xs = [.ref p] ∧ (SqL K H p ys ∨ SqT K H p ys) ∧ ∀ l, H l = none → Q (.ref l) (upd H l (.lst ys))) fList := by
  intro o G H ds vs d Q s r e
  unfold fList at e
  split at e
  case h_3 => cases e
  case h_1 xs =>
    cases e
    obtain ⟨v, rfl, r1⟩ := reps1 r
    replace r := r1
    clear r1
    unfold Rep at r
    obtain ⟨a, us, rfl, a1, a2, a3⟩ := r
    exact ⟨rfl, fun k => ⟨a, us, rfl, .inl (.of (s _ _ a1)), fun p hp => k p H _ (Same.refl _) hp ⟨us, rfl, a2, a3⟩⟩⟩
  case h_2 xs =>
    cases e
    obtain ⟨v, rfl, r1⟩ := reps1 r
    replace r := r1
    clear r1
    unfold Rep at r
    obtain ⟨a, us, rfl, a1, a2, a3⟩ := r
    exact ⟨rfl, fun k => ⟨a, us, rfl, .inr (Same.seqT s a1), fun p hp => k p H _ (Same.refl _) hp ⟨us, rfl, a2, a3⟩⟩⟩
def fTuple : List D → Option D
  | [.lst xs] => some (.tup xs)
  | [.tup xs] => some (.tup xs)
  | _ => none
theorem a_tuple {K : PySem.W.Frag} : ArD K (fun xs H Q => ∃ p ys, xs = [.ref p] ∧ ((SqL K H p ys ∧ ∀ l, H l = none → Q (.ref l) (upd H l (.tup ys))) ∨ (SqT K H p ys ∧ Q (.ref p) H))) fTuple := by
  intro o G H ds vs d Q s r e q
  unfold fTuple at e
  split at e
  case h_3 => cases e
  case h_1 xs =>
    cases e
    obtain ⟨v, rfl, r1⟩ := reps1 r
    replace r := r1
    clear r1
    unfold Rep at r
    obtain ⟨a, us, rfl, a1, a2, a3⟩ := r
    exact ⟨a, us, rfl, .inl ⟨.of (s _ _ a1), fun p hp => q _ _ _ (fun c u e => by rw [upd_ne (ne_of_none e hp)]; exact e) (Gr.new s hp) (ObjD.rep (d := .tup xs) ⟨us, rfl, a2, a3⟩ (gnone_of s hp))⟩⟩
  case h_2 xs =>
    cases e
    obtain ⟨v, rfl, r1⟩ := reps1 r
    replace r := r1
    clear r1
    have r' := r
    unfold Rep at r
    obtain ⟨a, us, rfl, a1, a2, a3⟩ := r
    exact ⟨a, us, rfl, .inr ⟨Same.seqT s a1, q _ H G (Same.refl _) (Gr.refl s) r'⟩⟩
def fMin2 : List D → Option D
  | [.int i, .int j] => some (.int (if j < i then j else i))
  | _ => none
def fMax2 : List D → Option D
  | [.int i, .int j] => some (.int (if j > i then j else i))
  | _ => none
theorem a_min2 {K : PySem.W.Frag} : ArD K (fun xs H Q => ∃ i j, xs = [.int i, .int j] ∧ Q (.int (if j < i then j else i)) H) fMin2 := by
  intro o G H ds vs d Q s r e q
  unfold fMin2 at e
  split at e
  case h_2 => cases e
  case h_1 i j =>
    cases e
    have ev : vs = [.int i, .int j] := Reps.ints (ns := [i, j]) r
    exact ⟨i, j, ev, q _ H G (Same.refl _) (Gr.refl s) (by unfold Rep; rfl)⟩
theorem a_max2 {K : PySem.W.Frag} : ArD K (fun xs H Q => ∃ i j, xs = [.int i, .int j] ∧ Q (.int (if j > i then j else i)) H) fMax2 := by
  intro o G H ds vs d Q s r e q
  unfold fMax2 at e
  split at e
  case h_2 => cases e
  case h_1 i j =>
    cases e
    have ev : vs = [.int i, .int j] := Reps.ints (ns := [i, j]) r
    exact ⟨i, j, ev, q _ H G (Same.refl _) (Gr.refl s) (by unfold Rep; rfl)⟩
/-! isinstance -/
def tyN : D → Option String
  | .non => some "NoneType"
  | .bl _ => some "bool"
  | .int _ => some "int"
  | .str _ => some "str"
  | .tup _ => some "tuple"
  | .lst _ => some "list"
  | _ => none
def isT (a b : String) : Option Bool :=
  if a ∈ ["NoneType", "bool", "int", "str", "tuple", "list"] ∧ b ∈ ["bool", "int", "str", "tuple", "list"] then some (a == b || (a == "bool" && b == "int")) else none
theorem isT_kit {K : PySem.W.Frag} {a b : String} {r : Bool} (h : isT a b = some r) : PySem.W.kitOne K (.type a) (.type b) = some r := by
  unfold isT at h
  split at h
  case isFalse => cases h
  case isTrue hm =>
    have e : isT a b = some r := by unfold isT; rw [if_pos hm]; exact h
    have key : ∀ a ∈ ["NoneType", "bool", "int", "str", "tuple", "list"], ∀ b ∈ ["bool", "int", "str", "tuple", "list"], kitB a b = some (a == b || (a == "bool" && b == "int")) := by decide +kernel
    exact kit_ty ((key a hm.1 b hm.2).trans h)
theorem ty_rep {K : PySem.W.Frag} {o : Option Addr} {G H : Hp} {d : D} {v : V} {n : String} (s : Same G H) (h : tyN d = some n) (r : Rep K o G d v) : TyX K H v (.type n) := by
  cases d with
  | non => cases h; unfold Rep at r; subst r; exact .base .non
  | bl b => cases h; unfold Rep at r; subst r; exact .base (.bl b)
  | int b => cases h; unfold Rep at r; subst r; exact .base (.int b)
  | str b => cases h; unfold Rep at r; subst r; exact .base (.str b)
  | tup xs =>
    cases h
    unfold Rep at r
    obtain ⟨a, vs, rfl, a1, _⟩ := r
    rcases a1 with (a1 | ⟨ob, a1⟩) | ⟨ob, its, n, a1, c, _⟩
    · exact .base (.tup (s _ _ a1))
    · exact .fTuple (s _ _ a1)
    · exact .kTuple a1 c
  | lst xs =>
    cases h
    unfold Rep at r
    obtain ⟨a, vs, rfl, a1, _⟩ := r
    exact .base (.lst (s _ _ a1))
  | _ => cases h
def fIsi : List D → Option D
  | [d, .raw (.ty b)] => (tyN d).bind fun a => (isT a b).map .bl
  | _ => none
theorem a_isi {K : PySem.W.Frag} : ArD K (rIsi K) fIsi := by
  intro o G H ds vs d Q s r e q
  unfold fIsi at e
  split at e
  case h_2 => cases e
  case h_1 d b =>
    obtain ⟨v, u, rfl, r1, r2⟩ := reps2 r
    unfold Rep at r2
    subst r2
    cases h1 : tyN d with
    | none => rw [h1] at e; cases e
    | some a =>
      rw [h1] at e
      cases h2 : isT a b with
      | none => simp [h2] at e
      | some p =>
        simp only [h2, Option.bind_some, Option.map_some, Option.some.injEq] at e
        subst e
        exact ⟨v, .ty b, .type a, .type b, p, rfl, .ty b, ty_rep s h1 r1, isT_kit h2, q _ H G (Same.refl _) (Gr.refl s) (by unfold Rep; rfl)⟩
/-- isinstance(x, (T, U)) -/
def fIsi2 (b c : String) (d : D) : Option D := (tyN d).bind fun a => (isT a b).bind fun p => (isT a c).map fun q => .bl (p || q)
section
variable {X : Cx} {W : WD}
theorem de_isi2 {e : Expr} {g : EM D} {b c : String} (h : PE X e (tCB (rIsiT X.K) (tCons (tD X.K W g) (tCons (tTup (tCons (tC (.ty b)) (tCons (tC (.ty c)) tNil))) tNil)))) : DE X W e (eUn (fIsi2 b c) g) := by
  refine pe_imp h fun σ H Q hq => ?_
  obtain ⟨C, l, rw, G, S, hp⟩ := hq
  refine seqD (P := PEq X.K W C l σ H G Q) S hp (fun _ _ z => z) (fun z => z) fun d rw1 v H1 G1 S1 s1 r1 h1 => ?_
  dsimp only [PEq] at h1
  refine ⟨by show 2 ≤ sizeLine; rw [sizeLine_eq]; decide, fun t ht => ?_⟩
  unfold fIsi2 at h1
  cases e1 : tyN d with
  | none => rw [e1] at h1; exact h1.elim
  | some a =>
    rw [e1] at h1
    simp only [Option.bind_some] at h1
    cases e2 : isT a b with
    | none => rw [e2] at h1; exact h1.elim
    | some p =>
      rw [e2] at h1
      simp only [Option.bind_some] at h1
      cases e3 : isT a c with
      | none => rw [e3] at h1; exact h1.elim
      | some q =>
        rw [e3] at h1
        have S2 := S1.new (o := .tup [.ty b, .ty c]) ht
        have g2 := Gr.new (K := X.K) (r := C.r) (o := .tup [.ty b, .ty c]) S1.sub ht
        refine ⟨v, t, [.ty b, .ty c], .type a, [.type b, .type c], p || q, rfl, upd_same, .cons (.ty b) (.cons (.ty c) .nil), ?_, ?_, ?_⟩
        · exact ty_rep S2.sub e1 (r1.mono g2.g)
        · refine kitAny_cons (isT_kit e2) (fun hb => ?_) fun hb => by rw [hb]; rfl
          refine kitAny_cons (isT_kit e3) (fun hc => by rw [hb, hc]; rfl) fun hc => by rw [hc, Bool.or_true]
        · exact h1 (.bl (p || q)) _ _ S2 (s1.trans g2) (by unfold Rep; rfl)
end
/-! sorted(set(t)), t a tuple of numbers -/
def insU (x : Int) : List Int → List Int
  | [] => [x]
  | y :: ys => if x < y then x :: y :: ys else if x = y then y :: ys else y :: insU x ys
def sortU : List Int → List Int
  | [] => []
  | x :: xs => insU x (sortU xs)
theorem mem_insU {x k : Int} : ∀ {ys : List Int}, k ∈ insU x ys ↔ k = x ∨ k ∈ ys
  | [] => by simp [insU]
  | y :: ys => by
    unfold insU
    split
    · simp
    · split
      · rename_i h; subst h; simp
      · simp only [List.mem_cons, mem_insU (ys := ys)]
        constructor
        · rintro (h | h | h)
          · exact .inr (.inl h)
          · exact .inl h
          · exact .inr (.inr h)
        · rintro (h | h | h)
          · exact .inr (.inl h)
          · exact .inl h
          · exact .inr (.inr h)
theorem pw_insU {x : Int} : ∀ {ys : List Int}, ys.Pairwise (· < ·) → (insU x ys).Pairwise (· < ·)
  | [], _ => by simp [insU]
  | y :: ys, h => by
    obtain ⟨h1, h2⟩ := List.pairwise_cons.mp h
    unfold insU
    split
    · rename_i hxy
      refine List.pairwise_cons.mpr ⟨fun z hz => ?_, h⟩
      rcases List.mem_cons.mp hz with rfl | hz
      · exact hxy
      · have := h1 z hz; omega
    · split
      · exact h
      · refine List.pairwise_cons.mpr ⟨fun z hz => ?_, pw_insU h2⟩
        rcases mem_insU.mp hz with rfl | hz
        · omega
        · exact h1 z hz
theorem mem_sortU {k : Int} : ∀ {xs : List Int}, k ∈ sortU xs ↔ k ∈ xs
  | [] => by simp [sortU]
  | x :: xs => by unfold sortU; rw [mem_insU, mem_sortU, List.mem_cons]
theorem pw_sortU : ∀ xs : List Int, (sortU xs).Pairwise (· < ·)
  | [] => by simp [sortU]
  | x :: xs => by unfold sortU; exact pw_insU (pw_sortU xs)
theorem pw_uniq : ∀ {xs ys : List Int}, xs.Pairwise (· < ·) → ys.Pairwise (· < ·) → (∀ k, k ∈ xs ↔ k ∈ ys) → xs = ys
  | [], [], _, _, _ => rfl
  | [], y :: ys, _, _, h => by have := (h y).mpr (by simp); simp at this
  | x :: xs, [], _, _, h => by have := (h x).mp (by simp); simp at this
  | x :: xs, y :: ys, h1, h2, h => by
    obtain ⟨a1, a2⟩ := List.pairwise_cons.mp h1
    obtain ⟨b1, b2⟩ := List.pairwise_cons.mp h2
    have e : x = y := by
      rcases List.mem_cons.mp ((h x).mp (by simp)) with e | e
      · exact e
      · rcases List.mem_cons.mp ((h y).mpr (by simp)) with e' | e'
        · exact e'.symm
        · have := b1 x e; have := a1 y e'; omega
    subst e
    rw [pw_uniq a2 b2 fun k => ⟨fun hk => ?_, fun hk => ?_⟩]
    · rcases List.mem_cons.mp ((h k).mp (List.mem_cons_of_mem _ hk)) with rfl | z
      · have := a1 k hk; omega
      · exact z
    · rcases List.mem_cons.mp ((h k).mpr (List.mem_cons_of_mem _ hk)) with rfl | z
      · have := b1 k hk; omega
      · exact z
def toInts : List D → Option (List Int)
  | [] => some []
  | .int i :: ds => (toInts ds).map (i :: ·)
  | _ => none
theorem toInts_eq : ∀ {ds : List D} {ns : List Int}, toInts ds = some ns → ds = ns.map .int
  | [], ns, h => by simp [toInts] at h; subst h; rfl
  | d :: ds, ns, h => by
    cases d <;> simp [toInts] at h
    case int i =>
      obtain ⟨a, h1, rfl⟩ := h
      rw [toInts_eq h1]; rfl
def sortSet : D → Option D
  | .tup ds => (toInts ds).bind fun (ns : List Int) => if ns.length < 64 then some (.lst ((sortU ns).map D.int)) else none
  | _ => none
def rSetT (K : PySem.W.Frag) (w : World) : List V → Hp → VK → Prop := fun xs H Q => ∃ (p : Addr) (ns : List Int), xs = [.ref p] ∧ SqT K H p (ns.map V.int) ∧ ns.length + 1 < scanBound ∧ ∀ (q : Addr) (c : Nat), H q = none → c ≤ ns.length → Q (.ref q) (upd H q (SetO w q (fun j => decide (j ∈ ns)) c))
section
variable {X : Cx} {W : WD}
theorem cr_setT (hc : X.calm = true) : CallR X (.type "set") (rSetT X.K X.w) := by
  intro pins s σ H xs us Q I r h
  obtain ⟨p, ns, rfl, hq, hb, q⟩ := h
  obtain ⟨u, rfl, ru⟩ := vals1 r
  cases ru
  obtain ⟨its, rv, pt, hz⟩ := I.tuple hq
  refine call_set_tupI ns (I.ok.hd hc) (show s.heap.IsTuple p its.toArray from pt) (Vals.ints rv) hb fun h' tk c R1 hcn k => ?_
  have hf : H s.heap.objs.size = none := I.hok.fresh (Nat.le_refl _)
  exact ⟨.ref s.heap.objs.size, _, I.laid (t' := tk) k (Nat.le_refl _) (setO_new R1), rfl, q _ c hf hcn⟩
theorem do_sortSet {e : Expr} {g : EM D} (h : PE X e (tCB (rSortedSet X.w) (tCons (tCB (rSetT X.K X.w) (tCons (tD X.K W g) tNil)) tNil))) : DO X W e (eUn sortSet g) := by
  refine pe_imp h fun σ H Q hq => ?_
  obtain ⟨C, l, rw, G, S, hp⟩ := hq
  refine seqD (P := POq X.K W C l σ H G Q) S hp (fun _ _ z => z) (fun z => z) fun d rw1 v H1 G1 S1 s1 r1 h1 => ?_
  dsimp only [POq] at h1
  unfold sortSet at h1
  cases d with
  | tup ds =>
    dsimp only at h1
    cases e1 : toInts ds with
    | none => rw [e1] at h1; exact h1.elim
    | some ns =>
      rw [e1] at h1
      simp only [Option.bind_some] at h1
      by_cases hl : ns.length < 64
      case neg => rw [if_neg hl] at h1; exact h1.elim
      rw [if_pos hl] at h1
      have hds := toInts_eq e1
      subst hds
      unfold Rep at r1
      obtain ⟨a, vs, rfl, a1, a2, a3⟩ := r1
      have hv := Reps.ints a3
      subst hv
      refine ⟨a, ns, rfl, Same.seqT S1.sub a1, by unfold scanBound; omega, fun q c hq hc => ?_⟩
      refine ⟨q, _, c, rfl, upd_same, by omega, fun ns' p hs hm hlen hp' => ?_⟩
      have en : ns' = sortU ns := pw_uniq hs (pw_sortU ns) fun k => by rw [hm k, mem_sortU, decide_eq_true_eq]
      subst en
      have S2 := S1.newO (o := SetO X.w q (fun j => decide (j ∈ ns)) c) hq
      have g2 := Gr.newO (K := X.K) (r := C.r) (o := SetO X.w q (fun j => decide (j ∈ ns)) c) S1.sub hq
      have hob : ObjD X.K C.r G1 (.lst ((sortU ns).map D.int)) (.lst ((sortU ns).map V.int)) := ⟨_, rfl, by rw [List.length_map, hlen, sizeLine_eq]; omega, Reps.of_ints _⟩
      refine h1 p _ _ (S2.newO hp') ((s1.trans g2).trans (Gr.newO S2.sub hp')) ?_ (S2.ownNew hp' hob rfl)
      cases e : H p with
      | none => rfl
      | some o => obtain ⟨o', z⟩ := (s1.trans g2).t _ _ e; rw [hp'] at z; cases z
  | _ => exact h1.elim
end
end HD
end
section
/-! The data layer: defs by their facts; more operators; a law's own frame. -/
namespace HD
open PySem PySem.Spec L2
open PyProof.Rows hiding St

abbrev CXF : CXT := fun _ _ _ _ _ _ => False
/-- a def of the text that keeps the promise of its reading -/
structure Cal (P : Program) (w : World) (K : PySem.W.Frag) (mg : Str → Option Value) (base : Heap) (x : Str) (k : Nat) (ps : List Str) (own : Bool) (F : FD) : Prop where
  ex : ∃ (a : Addr) (fd : FuncData), FnOk P w K mg base CXF k a fd ps (spD K own XW0 F) ∧ mg x = some (.ref a) ∧ PySem.W.keepIn K (.ref a) = true ∧ Binds K fd ps []
/-- what the head tells of a def -/
def FnF (K : PySem.W.Frag) (mg : Str → Option Value) (x : Str) (st : Stmt) (ps : List Str) : Prop := ∃ (a : Addr) (fd : FuncData), FunD K x x (defArgs st) (defBody st) (defScope st) [] [] a fd ∧ mg x = some (.ref a) ∧ Binds K fd ps []
section
variable {X : Cx} {k j : Nat} {ps : List Str} {F : FD} {x : Str} {p pos : Pos} {e : Expr} {es : List Expr} {g : EM (List D)}
theorem Cal.de (C : Cal X.prog X.w X.K X.mg X.base x k ps false F) (hr : Room k X.A) (hg : Gl X x) (ha : DA X W0 (e :: es) g) (hdb : (x == ("__debug__" : Str)) = false := by decide) (he : starEach (e :: es) X.env = (false, eval e X.env) :: starEach es X.env := by rfl) (hpl : (backTo pos (starEach es X.env)).any (·.1) = false := by rfl) :
    DE X W0 (.Call (.Name x p) (e :: es) [] pos) (eCall F g) := by
  obtain ⟨a, fd, Fo, hm, hk, hb⟩ := C.ex
  exact de_call Fo hr hg hm hk hb ha hdb he hpl
theorem Cal.do (C : Cal X.prog X.w X.K X.mg X.base x k ps true F) (hr : Room k X.A) (hg : Gl X x) (ha : DA X W0 (e :: es) g) (hdb : (x == ("__debug__" : Str)) = false := by decide) (he : starEach (e :: es) X.env = (false, eval e X.env) :: starEach es X.env := by rfl) (hpl : (backTo pos (starEach es X.env)).any (·.1) = false := by rfl) :
    DO X W0 (.Call (.Name x p) (e :: es) [] pos) (eCall F g) := by
  obtain ⟨a, fd, Fo, hm, hk, hb⟩ := C.ex
  exact do_call Fo hr hg hm hk hb ha hdb he hpl
theorem hu65 {A : Around} {k : Nat} (hr : Room k A) : A.units + 65 < cLine := by have := hr.un; omega
end
section
variable {P : Program} {w : World} {K : PySem.W.Frag} {mg : Str → Option Value} {base : Heap}
theorem cal_of {x : Str} {st : Stmt} {N ps : List Str} {k : Nat} {own : Bool} {den : SM} (F : FnF K mg x st ps) (S : FnScope N ps (defScope st))
    (hb : ∀ (f : Addr) (cdv : Value) (A : Around) (outer : List Env) (s : Shared) (H : Hp) (E : XK), Room k (A.deeper (envOfC x (defScope st) s.heap.objs.size f cdv)) → DSs (cxOf CXF P w K mg base N x (defScope st) f cdv A outer s H E).nox W0 own (defBody st) den) :
    Cal P w K mg base x (k + 1) ps own (dDef own ps.length N.length den) := by
  obtain ⟨a, fd, F, g, b⟩ := F
  exact ⟨a, fd, fn_den F S (hb a), g, F.kp, b⟩
end
/-! ### more -/
def sStuck : SM := fun _ _ => .stuck
section
variable {X : Cx} {W : WD} {own : Bool}
theorem ds_never {st : Stmt} : DS X W own st sStuck := ps_imp ps_never fun E σ H ⟨C, l, rw, G, S, hp⟩ => hp.elim
def fNeg : D → Option D
  | .int i => some (.int (-i))
  | _ => none
theorem u_neg {K : PySem.W.Frag} : UnD K (rU fun i => .int (-i)) fNeg := by
  intro o G H d1 v1 d Q s r1 e q
  unfold fNeg at e
  split at e
  case h_2 => cases e
  case h_1 i =>
    cases e
    unfold Rep at r1
    exact ⟨i, r1, q _ H G (Same.refl _) (Gr.refl s) (by unfold Rep; rfl)⟩
/-- value.method(..), nothing changed -/
def tyV' (T : String) : D → Bool
  | .str _ => T == "str"
  | .lst _ => T == "list"
  | _ => false
theorem tyV_ok {K : PySem.W.Frag} {o : Option Addr} {G H : Hp} {T : String} {d : D} {v : V} (s : Same G H) (r : Rep K o G d v) (h : tyV' T d = true) : tyV K T v H := by
  cases d with
  | str x =>
    unfold Rep at r
    subst r
    show T = "str"
    simpa [tyV'] using h
  | lst xs =>
    unfold Rep at r
    obtain ⟨a, vs, rfl, a1, _⟩ := r
    exact .inl ⟨by simpa [tyV'] using h, _, .of (s _ _ a1)⟩
  | _ => cases h
def eMeth (T : String) (f : D → List D → Option D) (g : EM D) (a : EM (List D)) : EM D := fun l rw => (g l rw).bind fun p => if tyV' T p.1 = true then (a l p.2).bind fun q => ofO (f p.1 q.1) q.2 else .stuck
def MeD (K : PySem.W.Frag) (r : V → List V → Hp → VK → Prop) (f : D → List D → Option D) : Prop := ∀ (o : Option Addr) (G H : Hp) (x : D) (ds : List D) (v : V) (vs : List V) (d : D) (Q : VK), Same G H → Rep K o G x v → Reps K o G ds vs → f x ds = some d →
  (∀ v H' G', Same H H' → Gr K o H G H' G' → Rep K o G' d v → Q v H') → r v vs H Q
theorem de_meth {e : Expr} {T : String} {r : V → List V → Hp → VK → Prop} {f : D → List D → Option D} {g : EM D} {a : EM (List D)} (h : PE X e (tBM X.K T r (tD X.K W g) (tA X.K W a))) (hf : MeD X.K r f) : DE X W e (eMeth T f g a) := by
  refine pe_imp h fun σ H Q hq => ?_
  obtain ⟨C, l, rw, G, S, hp⟩ := hq
  refine seqD (P := PEq X.K W C l σ H G Q) S hp (fun _ _ z => z) (fun z => z) fun d rw1 v H1 G1 S1 s1 r1 h1 => ?_
  dsimp only [PEq] at h1
  by_cases ht : tyV' T d = true
  case neg => rw [if_neg ht] at h1; exact h1.elim
  rw [if_pos ht] at h1
  refine ⟨tyV_ok S1.sub r1 ht, ?_⟩
  refine seqA (P := PEq X.K W C l σ H G Q) S1 h1 (fun _ _ z => z) (fun z => z) fun ds rw2 vs H2 G2 S2 s2 r2 h2 => ?_
  dsimp only [PEq] at h2
  cases e3 : f d ds with
  | none => rw [e3] at h2; exact h2.elim
  | some z =>
    rw [e3] at h2
    exact hf C.r G2 H2 d ds v vs z Q S2.sub (r1.mono s2.g) r2 e3 fun v H' G' sh g r => h2 v H' G' (S2.grow0 sh g) ((s1.trans s2).trans g) r
/-- l.index(x): the first place of an equal one -/
def firstAt (x : D) : List D → Option Nat
  | [] => none
  | y :: ys => if eqD y x = true then some 0 else (firstAt x ys).map (· + 1)
def fIndex : D → List D → Option D
  | .lst ds, [x] => if fit 8 (.lst ds) = true ∧ fit 8 x = true then (firstAt x ds).map fun j => .int (j : Nat) else none
  | _, _ => none
theorem firstAt_ok {x : D} : ∀ {ds : List D} {j : Nat}, firstAt x ds = some j → ∃ z, (toPys ds)[j]? = some z ∧ PyData.eqv z (toPy x) = true ∧ ∀ (m : Nat) (z' : PyData), m < j → (toPys ds)[m]? = some z' → PyData.eqv z' (toPy x) = false
  | [], j, h => by simp [firstAt] at h
  | y :: ys, j, h => by
    unfold firstAt at h
    split at h
    · rename_i e
      cases h
      exact ⟨toPy y, by simp [toPys], e, fun m z' hm => absurd hm (Nat.not_lt_zero _)⟩
    · rename_i e
      cases q : firstAt x ys with
      | none => rw [q] at h; cases h
      | some i =>
        rw [q] at h
        cases h
        obtain ⟨z, h1, h2, h3⟩ := firstAt_ok q
        refine ⟨z, by simpa [toPys] using h1, h2, fun m z' hm hz => ?_⟩
        cases m with
        | zero =>
          simp [toPys] at hz
          subst hz
          exact Bool.eq_false_iff.mpr e
        | succ m => exact h3 m z' (Nat.lt_of_succ_lt_succ hm) (by simpa [toPys] using hz)
theorem m_index {K : PySem.W.Frag} : MeD K (rIndexD K) fIndex := by
  intro o G H x ds v vs d Q s r1 r2 e q
  unfold fIndex at e
  split at e
  case h_2 => cases e
  case h_1 xs x =>
    split at e
    case isFalse => cases e
    case isTrue h =>
      cases e2 : firstAt x xs with
      | none => rw [e2] at e; cases e
      | some j =>
        rw [e2] at e
        cases e
        obtain ⟨u, rfl, r3⟩ := reps1 r2
        obtain ⟨z, h1, h2, h3⟩ := firstAt_ok e2
        have d1 := dp_of s 8 _ _ h.1 r1
        have s1 := fit_shaped (d := .lst xs) (by decide) h.1
        unfold Rep at r1
        obtain ⟨a, us, rfl, _⟩ := r1
        simp only [toPy] at d1 s1
        exact ⟨a, u, toPy x, toPys xs, j, z, rfl, rfl, d1, dp_of s 8 _ _ h.2 r3, s1, fit_shaped (by decide) h.2, h1, h2, h3, q _ H G (Same.refl _) (Gr.refl s) (by unfold Rep; rfl)⟩
end
/-! ### a law -/
def spL (K : PySem.W.Frag) : Sp := fun vs H Q _ => ∃ (a : Addr) (ns : List Int), vs = [.ref a] ∧ SqL K H a (ns.map V.int) ∧ LamX.Tabs (tabT K) H ∧ ns.length ≤ 63 ∧ ∀ H', Q (.bl true) H'
section
variable {P : Program} {w : World} {K : PySem.W.Frag} {mg : Str → Option Value} {base : Heap} {f : Addr} {fd : FuncData}
/-- the law's own body: it lays the row, then the rest -/
theorem law_ok {st : Stmt} {N : List Str} {x : Str} {s0 : Stmt} {rest : List Stmt} {den : SM} {k : Nat} (F : FunD K "law" "law" (defArgs st) (defBody st) (defScope st) [] [] f fd) (S : FnScope N [x] (defScope st)) (hbody : defBody st = s0 :: rest)
    (hN : 2 ≤ N.length)
    (h0 : ∀ (cdv : Value) (A : Around) (outer : List Env) (s : Shared) (H : Hp) (E : XK), PS (cxOf CXF P w K mg base N "law" (defScope st) f cdv A outer s H E).nox s0 (tAsg (tLst (tCons (tVar 0) (tCons (tC (.int 0)) (tCons (tC (.int 0)) tNil)))) (gName 1)))
    (hb : ∀ (cdv : Value) (A : Around) (outer : List Env) (s : Shared) (H : Hp) (E : XK), Room k (A.deeper (envOfC "law" (defScope st) s.heap.objs.size f cdv)) → DSs (cxOf CXF P w K mg base N "law" (defScope st) f cdv A outer s H E).nox W0 false rest den)
    (hp : ∀ ns : List Int, ns.length ≤ 63 → ∃ l' rw', den (.val (.scr ns) :: .val .row :: List.replicate (N.length - 2) .no) (some ⟨ns, 0, 0⟩) = .ok (.ret (.bl true), l', rw')) :
    FnOk P w K mg base CXF (k + 1) f fd [x] (spL K) := by
  refine F.ok S (fun vs H Q E h => by obtain ⟨a, ns, rfl, _⟩ := h; rfl) fun cdv A outer s H vs Q E hr h => ?_
  obtain ⟨a, ns, rfl, hS, hT, hl, hQ⟩ := h
  rw [hbody]
  refine ⟨_, PSs.nox (pss_locked (pss_cons (h0 cdv A outer s H E) (hb cdv A outer s H E hr))), ?_⟩
  have hst : start N [V.ref a] = some (.ref a) :: none :: List.replicate (N.length - 2) none := by
    unfold L2.start
    show [some (V.ref a)] ++ List.replicate (N.length - 1) none = _
    obtain ⟨m, hm⟩ : ∃ m, N.length = m + 2 := ⟨N.length - 2, by omega⟩
    rw [hm]
    rfl
  rw [hst]
  have hl' : ns.length ≤ sizeLine := by rw [sizeLine_eq]; omega
  have core : ∀ H1 G1 : Hp, Same G1 H1 → (∀ a o, G1 a = some o → nTb o) → LamX.Tabs (tabT K) H1 → (∀ o, Rep K o G1 (.scr ns) (.ref a)) →
      tSeq (tAsg (tLst (tCons (tVar 0) (tCons (tC (.int 0)) (tCons (tC (.int 0)) tNil)))) (gName 1)) (tS K W0 false den) { nx := fun _ H' => Q .non H', rt := Q } (some (.ref a) :: none :: List.replicate (N.length - 2) none) H1 := by
    intro H1 G1 sub gt1 hT1 hr1
    refine ⟨.ref a, rfl, by show 3 ≤ sizeLine; rw [sizeLine_eq]; decide, fun p hp0 => ?_⟩
    obtain ⟨l', rw', e⟩ := hp ns hl
    have hg0 : G1 p = none := by
      cases q : G1 p with
      | none => rfl
      | some o => have := sub _ _ q; rw [hp0] at this; cases this
    have hH : Same H1 (upd H1 p (.lst [.ref a, .int 0, .int 0])) := fun b u e => by rw [upd_ne (ne_of_none e hp0)]; exact e
    refine ⟨⟨some p, H1, G1⟩, .val (.scr ns) :: .val .row :: List.replicate (N.length - 2) .no, some ⟨ns, 0, 0⟩, G1, ⟨sub.trans hH, fun b o e _ _ => hH b o e, fun b o e => ⟨o, hH b o e⟩, TabR.new hp0 hT1, Same.refl _, fun b o e => .inl e, gt1, ?_, fun i x hi => ?_, fun i j d e q hij hi hj _ => ?_, ?_⟩, ?_⟩
    · simp
    · match i, hi with
      | 0, hi =>
        cases hi
        exact ⟨some (.ref a), rfl, .ref a, rfl, hr1 _⟩
      | 1, hi =>
        cases hi
        exact ⟨some (.ref p), rfl, .ref p, rfl, by unfold Rep; exact ⟨p, rfl, rfl⟩⟩
      | i + 2, hi =>
        have hi : (List.replicate (N.length - 2) Sl.no)[i]? = some x := hi
        rw [List.getElem?_replicate] at hi
        split at hi
        · rename_i hlt
          cases hi
          refine ⟨none, ?_, trivial⟩
          show (List.replicate (N.length - 2) (none : Option V))[i]? = some none
          rw [List.getElem?_replicate, if_pos hlt]
        · cases hi
    · match i, hi with
      | 0, hi => cases hi
      | 1, hi => cases hi
      | i + 2, hi =>
        have hi : (List.replicate (N.length - 2) Sl.no)[i]? = some (.own d) := hi
        rw [List.getElem?_replicate] at hi
        split at hi <;> cases hi
    · exact ⟨hg0, .ref a, upd_same, hr1 _⟩
    · rw [e]
      intro v σ' H' G' S' rr
      unfold RetRep at rr
      rw [if_neg Bool.false_ne_true] at rr
      unfold Rep at rr
      subst rr
      exact hQ H'
  rcases hS with (hS | ⟨ob, hS⟩) | hS
  · refine .inr ⟨a, _, hS, trivial, fun od => ?_⟩
    refine core _ (fun b => if b = a then some (.frz od (.lst (ns.map V.int))) else none) (fun b u e => ?_) (fun b u e => ?_) ((TabR.put fun u e => by rw [hS] at e; cases e; exact nTE_lst) hT) fun o => ?_
    · dsimp only at e
      by_cases hb : b = a
      · subst hb; rw [if_pos rfl] at e; rw [upd_same]; exact e
      · rw [if_neg hb] at e; cases e
    · by_cases hb : b = a
      · rw [if_pos hb] at e; cases e; exact fun _ z => nomatch z
      · rw [if_neg hb] at e; cases e
    · unfold Rep
      exact ⟨a, rfl, .inl ⟨od, if_pos rfl⟩, hl'⟩
  · refine .inl (core H (fun b => if b = a then H a else none) (fun b u e => ?_) (fun b u e => ?_) hT fun o => ?_)
    · dsimp only at e
      by_cases hb : b = a
      · subst hb; rw [if_pos rfl] at e; exact e
      · rw [if_neg hb] at e; cases e
    · by_cases hb : b = a
      · rw [if_pos hb, hS] at e; cases e; exact fun _ z => nomatch z
      · rw [if_neg hb] at e; cases e
    · unfold Rep
      exact ⟨a, rfl, .inl ⟨ob, by rw [if_pos rfl]; exact hS⟩, hl'⟩
  · refine .inl (core H (fun _ => none) (fun b u e => by cases e) (fun b u e => by cases e) hT fun o => ?_)
    unfold Rep
    exact ⟨a, rfl, .inr (.inr hS), hl'⟩
end
end HD
namespace HD
open PySem PySem.Spec L2
open PyProof.Rows hiding St
/-- no promise at all: the bottom of a recursion -/
theorem cal_zero {P : Program} {w : World} {K : PySem.W.Frag} {mg : Str → Option Value} {base : Heap} {x : Str} {st : Stmt} {ps : List Str} {own : Bool} (F : FnF K mg x st ps) : Cal P w K mg base x 0 ps own (fun _ _ => .stuck) := by
  obtain ⟨a, fd, F, g, b⟩ := F
  exact ⟨a, fd, ⟨fun vs H Q E h => by obtain ⟨r, G, ds, rw, s, q, wr, hp⟩ := h; exact hp.elim, fun A outer s H args us vs Q E _ _ _ _ h => by obtain ⟨r, G, ds, rw, s, q, wr, hp⟩ := h; exact hp.elim⟩, g, F.kp, b⟩
end HD
end
section
/-! Slices, and tuples of texts that are constants of the module. -/
namespace HD
open PySem PySem.Spec L2
open PyProof.Rows hiding St
def cutD (xs : List D) (lo hi : Option Int) : List D := (xs.drop (HT.sIx xs.length 0 lo)).take (HT.sIx xs.length xs.length hi - HT.sIx xs.length 0 lo)
def fSl : D → Option Int → Option Int → Option D
  | .lst ds, lo, hi => some (.lst (cutD ds lo hi))
  | .tup ds, lo, hi => some (.tup (cutD ds lo hi))
  | .str z, lo, hi => if z.length ≤ 100000 then some (.str (cutS z lo hi)) else none
  | _, _, _ => none
def pNone : EM (Option Int) := fun _ rw => .ok (none, rw)
def pSome (g : EM D) : EM (Option Int) := fun l rw => (g l rw).bind fun p => match p.1 with
  | .int i => .ok (some i, p.2)
  | _ => .stuck
def eSl (g : EM D) (lo hi : EM (Option Int)) : EM D := fun l rw => (g l rw).bind fun p => (lo l p.2).bind fun q => (hi l q.2).bind fun r => ofO (fSl p.1 q.1 r.1) r.2
section
variable {K : PySem.W.Frag} {o : Option Addr} {G : Hp}
theorem Reps.cut {ds : List D} {vs : List V} (h : Reps K o G ds vs) (lo hi : Option Int) : Reps K o G (cutD ds lo hi) (cutV vs lo hi) := by
  unfold cutD cutV
  rw [h.length]
  exact (h.drop _).take _
end
section
variable {X : Cx} {W : WD}
def PartPost (K : PySem.W.Frag) (W : WD) (C : C0) (l : Dl) (σ : St) (H G : Hp) (q : R (Option Int × Rw)) (Q : Option Int → Hp → Prop) : Prop :=
  match q with
  | .ok (o, rw') => ∀ H' G', SR K C l rw' σ H' G' → Gr K C.r H G H' G' → Q o H'
  | .exc x rw' => ∀ H' G', SR K C l rw' σ H' G' → W x σ H'
  | .stuck => False
def tP (K : PySem.W.Frag) (W : WD) (g : EM (Option Int)) : TO := fun σ H Q => ∃ C l rw G, SR K C l rw σ H G ∧ PartPost K W C l σ H G (g l rw) Q
def DP (X : Cx) (W : WD) (e : Option Expr) (g : EM (Option Int)) : Prop := PO X e (tP X.K W g)
theorem po_imp {e : Option Expr} {t u : TO} (h : PO X e t) (i : ∀ σ H Q, u σ H Q → t σ H Q) : PO X e u := ⟨fun pins s σ H Q I hq => h.run pins s σ H Q I (i σ H Q hq)⟩
theorem dp_none : DP X W none pNone := po_imp po_none fun σ H Q hq => by
  obtain ⟨C, l, rw, G, S, hp⟩ := hq
  exact hp H G S (Gr.refl S.sub)
theorem dp_some {e : Expr} {g : EM D} (h : DE X W e g) : DP X W (some e) (pSome g) := po_imp (po_some h) fun σ H Q hq => by
  obtain ⟨C, l, rw, G, S, hp⟩ := hq
  refine seqD (P := fun q => PartPost X.K W C l σ H G q Q) S hp (fun _ _ z => z) (fun z => z) fun d rw1 v H1 G1 S1 s1 r1 h1 => ?_
  cases d with
  | int i =>
    unfold Rep at r1
    exact ⟨i, r1, h1 H1 G1 S1 s1⟩
  | _ => exact h1.elim
theorem seqP {g : EM (Option Int)} {β : Type} {k : Option Int × Rw → R β} {P : R β → Prop} {C : C0} {l : Dl} {rw : Rw} {σ : St} {H G : Hp} {K : PySem.W.Frag} {Q' : Option Int → Hp → Prop} (S : SR K C l rw σ H G) (hp : P ((g l rw).bind k)) (hx : ∀ x w, P (.exc x w) → ∀ H' G', SR K C l w σ H' G' → W x σ H') (hs : P .stuck → False)
    (f : ∀ b rw' H' G', SR K C l rw' σ H' G' → Gr K C.r H G H' G' → P (k (b, rw')) → Q' b H') : tP K W g σ H Q' := by
  refine ⟨C, l, rw, G, S, ?_⟩
  cases e1 : g l rw with
  | exc x w => rw [e1] at hp; exact hx x w hp
  | stuck => rw [e1] at hp; exact (hs hp).elim
  | ok p =>
    obtain ⟨d, rw'⟩ := p
    rw [e1] at hp
    exact fun H' G' S' g' => f d rw' H' G' S' g' hp
def rSl3 (K : PySem.W.Frag) : V → Option Int → Option Int → Hp → VK → Prop := fun x lo hi H Q => rSlL K x lo hi H Q ∨ (rSlA K x lo hi H Q ∨ rSlS x lo hi H Q)
theorem sl_3 : SlR X (rSl3 X.K) := sl_list.or (sl_tupA.or sl_str)
theorem cutD_whole {xs : List D} {n : Nat} {lo hi : Option Int} (hn : xs.length = n) (h : HT.sIx n 0 lo = 0 ∧ HT.sIx n n hi = n) : cutD xs lo hi = xs := by
  subst hn
  unfold cutD
  rw [h.1, h.2]
  simp
theorem sl3_ok {K : PySem.W.Frag} {o : Option Addr} {G H : Hp} {d1 d : D} {v1 : V} {lo hi : Option Int} {Q : VK} (s : Same G H) (r : Rep K o G d1 v1) (e : fSl d1 lo hi = some d) (q : ∀ v H' G', Same H H' → Gr K o H G H' G' → Rep K o G' d v → Q v H') : rSl3 K v1 lo hi H Q := by
  unfold fSl at e
  split at e
  case h_4 => cases e
  case h_1 ds =>
    cases e
    unfold Rep at r
    obtain ⟨a, us, rfl, a1, a2, a3⟩ := r
    refine .inl ⟨a, us, rfl, .of (s _ _ a1), fun p hp => q _ _ _ (fun c u e => by rw [upd_ne (ne_of_none e hp)]; exact e) (Gr.new s hp) (ObjD.rep (d := .lst (cutD ds lo hi)) ⟨cutV us lo hi, rfl, Nat.le_trans (cutV_length us lo hi) a2, a3.cut lo hi⟩ (gnone_of s hp))⟩
  case h_2 ds =>
    cases e
    unfold Rep at r
    obtain ⟨a, us, rfl, a1, a2, a3⟩ := r
    refine .inr (.inl ⟨a, us, rfl, Same.seqT s a1, fun h0 => ?_, fun _ p hp => q _ _ _ (fun c u e => by rw [upd_ne (ne_of_none e hp)]; exact e) (Gr.new s hp) (ObjD.rep (d := .tup (cutD ds lo hi)) ⟨cutV us lo hi, rfl, Nat.le_trans (cutV_length us lo hi) a2, a3.cut lo hi⟩ (gnone_of s hp))⟩)
    refine q _ H G (Same.refl _) (Gr.refl s) ?_
    rw [cutD_whole a3.length h0]
    unfold Rep
    exact ⟨a, us, rfl, a1, a2, a3⟩
  case h_3 z =>
    split at e
    case isFalse => cases e
    case isTrue hz =>
      cases e
      unfold Rep at r
      subst r
      exact .inr (.inr ⟨z, rfl, by rw [sizeLine_eq]; omega, q _ H G (Same.refl _) (Gr.refl s) (by unfold Rep; rfl)⟩)
theorem de_sl {e : Expr} {g : EM D} {lo hi : Option Expr} {pl ph : EM (Option Int)} {pos p2 : Pos} (h : DE X W e g) (hl : DP X W lo pl) (hh : DP X W hi ph) : DE X W (.Subscript e (.Slice lo hi none p2) pos) (eSl g pl ph) := by
  refine pe_imp (pe_slice sl_3 h hl hh) fun σ H Q hq => ?_
  obtain ⟨C, l, rw, G, S, hp⟩ := hq
  refine seqD (P := PEq X.K W C l σ H G Q) S hp (fun _ _ z => z) (fun z => z) fun d1 rw1 v1 H1 G1 S1 s1 r1 h1 => ?_
  refine seqP (P := PEq X.K W C l σ H G Q) S1 h1 (fun _ _ z => z) (fun z => z) fun o2 rw2 H2 G2 S2 s2 h2 => ?_
  refine seqP (P := PEq X.K W C l σ H G Q) S2 h2 (fun _ _ z => z) (fun z => z) fun o3 rw3 H3 G3 S3 s3 h3 => ?_
  dsimp only [PEq] at h3
  cases e3 : fSl d1 o2 o3 with
  | none => rw [e3] at h3; exact h3.elim
  | some d =>
    rw [e3] at h3
    exact sl3_ok S3.sub ((r1.mono s2.g).mono s3.g) e3 fun v H' G' sh g r => h3 v H' G' (S3.grow0 sh g) (((s1.trans s2).trans s3).trans g) r
end
/-! ### a tuple of texts that is a constant -/
def TupC (K : PySem.W.Frag) (mg : Str → Option Value) (x : Str) (zs : List Str) : Prop := ∃ a, mg x = some (.ref a) ∧ (∀ H, SqT K H a (zs.map V.str)) ∧ zs.length ≤ sizeLine
theorem reps_str {K : PySem.W.Frag} {o : Option Addr} {G : Hp} : ∀ zs : List Str, Reps K o G (zs.map D.str) (zs.map V.str)
  | [] => Reps.nil
  | z :: zs => Reps.cons (by unfold Rep; rfl) (reps_str zs)
theorem de_gtup {X : Cx} {W : WD} {x : Str} {zs : List Str} {pos : Pos} (hg : Gl X x) (hm : TupC X.K X.mg x zs) (hd : (x == ("__debug__" : Str)) = false := by decide) : DE X W (.Name x pos) (eK (.tup (zs.map D.str))) := by
  obtain ⟨a, h1, h2, h3⟩ := hm
  exact de_gref hg h1 (fun o G => by unfold Rep; exact ⟨a, zs.map V.str, rfl, h2 G, by rw [List.length_map]; exact h3, reps_str zs⟩) hd
theorem tupC_of {K : PySem.W.Frag} {h : Heap} {mg : Str → Option Value} (X : K.In h) (G : h.Ns mainGlobals mg) {x : Str} (c : (He.Fa.glo x).ok K = true) {zs : List Str} (t : He.tupB K x (zs.map He.Dv.str) = true) (hz : zs.length ≤ 100000) : TupC K mg x zs := by
  refine ⟨He.ga K x, He.glo_ok X G c, fun H => ?_, by rw [sizeLine_eq]; omega⟩
  have := He.tupB_ok t H
  rw [List.map_map] at this
  exact this
/-! ### a Hook with a test of one's own -/
abbrev AlC : Type := He.AlD × Bool
def obC (n : Nat) (fa : List He.Fa) (fn : List He.DefD) (ex : PySem.W.Frag → Bool) (g : Addr → Option Obj) : AlC := (He.obsDG n fa fn g, ex (He.frG g (He.asD g n)))
def hookC (n : Nat) (fa : List He.Fa) (fn : List He.DefD) (ex : PySem.W.Frag → Bool) : PySem.W.Hook where
  α := AlC
  obs := fun s => obC n fa fn ex s.heap.get?
  val := fun _ => (He.valD fn, true)
  says := fun _ h => ∃ K : PySem.W.Frag, K.In h ∧ He.SaysD fa fn K ∧ ex K = true
  of := fun _ _ e => ⟨_, He.frG_in, congrArg Prod.fst e, congrArg Prod.snd e⟩
  keeps := fun _ _ _ ⟨K, hK, c⟩ k => ⟨K, PySem.W.Frag.In.keeps hK k, c⟩
theorem obC_eq {n : Nat} {fa : List He.Fa} {fn : List He.DefD} {ex : PySem.W.Frag → Bool} {g : Addr → Option Obj} {s : Shared} (h : ∀ a, g a = s.heap.get? a) : obC n fa fn ex g = (hookC n fa fn ex).obs s := by
  have e : g = s.heap.get? := funext h
  rw [e] <;> rfl
end HD
end
section
/-! Texts: str of a number, int of a text, join, split, one sign in a text. -/
namespace HD
open PySem PySem.Spec L2
open PyProof.Rows hiding St
section
variable {K : PySem.W.Frag}
def fStr : List D → Option D
  | [.int i] => if i.natAbs ≤ 1000 then some (.str (toString i)) else none
  | _ => none
theorem a_str : ArD K (fun xs H Q => ∃ i : Int, xs = [.int i] ∧ i.natAbs.log2 < 1920 ∧ Q (.str (toString i)) H) fStr := by
  intro o G H ds vs d Q s r e q
  unfold fStr at e
  split at e
  case h_2 => cases e
  case h_1 i =>
    split at e
    case isFalse => cases e
    case isTrue h =>
      cases e
      obtain ⟨v, rfl, r1⟩ := reps1 r
      unfold Rep at r1
      subst r1
      exact ⟨i, rfl, Nat.lt_of_le_of_lt (Nat.log2_le_self _) (by omega), q _ H G (Same.refl _) (Gr.refl s) (by unfold Rep; rfl)⟩
def fInt : List D → Option D
  | [.str a] => if a.length ≤ 640 then (PySem.intText? a).map .int else none
  | _ => none
theorem a_int : ArD K (fun xs H Q => ∃ a n, xs = [.str a] ∧ PySem.intText? a = some n ∧ a.length ≤ 640 ∧ Q (.int n) H) fInt := by
  intro o G H ds vs d Q s r e q
  unfold fInt at e
  split at e
  case h_2 => cases e
  case h_1 a =>
    split at e
    case isFalse => cases e
    case isTrue h =>
      cases hn : PySem.intText? a with
      | none => rw [hn] at e; cases e
      | some n =>
        rw [hn] at e
        cases e
        obtain ⟨v, rfl, r1⟩ := reps1 r
        unfold Rep at r1
        subst r1
        exact ⟨a, n, rfl, hn, h, q _ H G (Same.refl _) (Gr.refl s) (by unfold Rep; rfl)⟩
def toStrs : List D → Option (List Str)
  | [] => some []
  | .str x :: ds => (toStrs ds).map (x :: ·)
  | _ :: _ => none
theorem toStrs_ok {o : Option Addr} {G : Hp} : ∀ {ds : List D} {ys : List Str} {vs : List V}, toStrs ds = some ys → Reps K o G ds vs → vs = ys.map V.str
  | [], ys, vs, h, r => by
    cases h
    unfold Reps at r
    exact r
  | d :: ds, ys, vs, h, r => by
    unfold Reps at r
    obtain ⟨v, t, rfl, r1, r2⟩ := r
    cases d with
    | str x =>
      unfold toStrs at h
      cases q : toStrs ds with
      | none => rw [q] at h; cases h
      | some zs =>
        rw [q] at h
        cases h
        unfold Rep at r1
        subst r1
        rw [toStrs_ok q r2]
        rfl
    | _ => cases h
def fJoin : D → List D → Option D
  | .str a, [.lst ds] => (toStrs ds).bind fun ys => if (ys.map (·.length)).sum + ys.length * a.length ≤ 100000 then some (.str (Txt.join a ys)) else none
  | _, _ => none
theorem m_join : MeD K (fun x xs H Q => ∃ a p, ∃ ys : List Str, x = .str a ∧ xs = [.ref p] ∧ (SqL K H p (ys.map V.str) ∨ SqT K H p (ys.map V.str)) ∧
    (ys.map (·.length)).sum + ys.length * a.length ≤ 16777216 ∧ Q (.str (Txt.join a ys)) H) fJoin := by
  intro o G H x ds v vs d Q s r1 r2 e q
  unfold fJoin at e
  split at e
  case h_2 => cases e
  case h_1 a ds =>
    cases h1 : toStrs ds with
    | none => rw [h1] at e; cases e
    | some ys =>
      rw [h1] at e
      simp only [Option.bind_some] at e
      split at e
      case isFalse => cases e
      case isTrue hz =>
        cases e
        obtain ⟨u, rfl, r3⟩ := reps1 r2
        unfold Rep at r1
        subst r1
        unfold Rep at r3
        obtain ⟨b, us, rfl, a1, a2, a3⟩ := r3
        rw [toStrs_ok h1 a3] at a1
        exact ⟨a, b, ys, rfl, rfl, .inl (.of (s _ _ a1)), by omega, q _ H G (Same.refl _) (Gr.refl s) (by unfold Rep; rfl)⟩
def fSplit : D → List D → Option D
  | .str a, [.str b] => if (b.length == 0) = false ∧ a.length ≤ 100000 then some (.lst ((Txt.split a b).map .str)) else none
  | _, _ => none
theorem m_split : MeD K (fun x xs H Q => ∃ a b, x = .str a ∧ xs = [.str b] ∧ (b.length == 0) = false ∧ a.length + 2 ≤ sizeLine ∧ rNewStrs (Txt.split a b) H Q) fSplit := by
  intro o G H x ds v vs d Q s r1 r2 e q
  unfold fSplit at e
  split at e
  case h_2 => cases e
  case h_1 a b =>
    split at e
    case isFalse => cases e
    case isTrue hz =>
      cases e
      obtain ⟨u, rfl, r3⟩ := reps1 r2
      unfold Rep at r1 r3
      subst r1 r3
      have hs : a.length + 2 ≤ sizeLine := by rw [sizeLine_eq]; omega
      exact ⟨a, b, rfl, rfl, hz.1, hs, fun p hp => q _ _ _ (fun c u e => by rw [upd_ne (ne_of_none e hp)]; exact e) (Gr.new s hp)
        (ObjD.rep (d := .lst ((Txt.split a b).map .str)) ⟨(Txt.split a b).map V.str, rfl, by rw [List.length_map]; exact Nat.le_trans (PyProof.Rows.split_le a b) hs, reps_str _⟩ (gnone_of s hp))⟩
def fInS (neg : Bool) : D → D → Option D
  | .str x, .str z => match x.cps.toList with
    | [c] => some (.bl (if neg = true then !decide (c ∈ z.cps.toList) else decide (c ∈ z.cps.toList)))
    | _ => none
  | _, _ => none
theorem c_notInS : CmpD K (fun x y H Q => ∃ (c : Nat) (z : Str), x = .str ⟨#[c]⟩ ∧ y = .str z ∧ Q (.bl (!decide (c ∈ z.cps.toList))) H) (fInS true) := by
  intro o G H d1 d2 v1 v2 d Q s r1 r2 e q
  unfold fInS at e
  split at e
  case h_2 => cases e
  case h_1 x z =>
    split at e
    case h_2 => cases e
    case h_1 c hc =>
      cases e
      unfold Rep at r1 r2
      subst r1 r2
      have hx : x = ⟨#[c]⟩ := by
        obtain ⟨⟨l⟩⟩ := x
        have : l = [c] := hc
        subst this
        rfl
      subst hx
      exact ⟨c, z, rfl, rfl, q _ (by unfold Rep; rfl)⟩
end
end HD
end
section
/-! max(numbers, default=k). -/
namespace MxD
open PySem
open Sem (wp)
theorem lname : (toString "max" ++ toString ".loop" : String) = "max.loop" := by decide
theorem margs (a d : Value) : argsOk "max" ⟨[a], [(Str.ofString "default", d)]⟩ := by unfold argsOk; first | rfl | kernel_rfl
theorem mbind (d : Value) : Builtin.Builtins.bindParams "max" ["key", "default"] 0 ⟨[], [(Str.ofString "default", d)]⟩ = pure [none, some d] := by first | rfl | kernel_rfl
section
variable {prog : Program} {w : World} {A : Around} {Rz : Result → Shared → Prop} {J : Addr} {fp wr : List Addr} {n : Nat} {P : Nat → Value → Prop} {St : Nat → Heap → Prop} {d : Value}
theorem loopM (wk : Walks prog w A.in1 J fp wr n P St) (bt : Nat → Nat → Bool) (cm : CmpOf prog w A.in1 .Gt P bt) (B : Addr) (nB : B ∉ fp) :
    ∀ (k j : Nat) (s : Shared) (vb : Value) (c : Nat), n - (j + 1) = k → j + 1 ≤ n → St (j + 1) s.heap → P (argBest bt j) vb →
    s.heap.get? B = some { cls := .type "list", dict := none, data := .seq #[vb, vb] c, slots := #[] } →
    (∀ v h' tk, P (argBest bt (n - 1)) v → (∀ b o, b ∉ wr → b ≠ B → s.heap.get? b = some o → h'.get? b = some o) → Rz (.ok (.ret v)) { s with heap := h', toks := tk }) →
    codeAny (model prog w) A (.builtin "max.loop" ⟨[.ref J, .none, .ref B], [(Str.ofString "default", d)]⟩) Rz s := by
  have nBw : B ∉ wr := fun z => nB (wk.sub _ z)
  intro k
  induction k with
  | zero =>
    intro j s vb c k1 k2 k3 k4 k5 k6
    have jn : j + 1 = n := by omega
    refine codeAny_builtin F.entry_max_loop ?_ ; rw [Around.under_plainId F.plain_max_loop _]
    show wpAny _ A.in1 (seqItems? (.ref B) >>= _) _ _ s
    refine wpAny_bind (wpAny_seqItems k5 rfl ?_) ; show wpAny _ A.in1 (tryCatch (pyNext (.ref J)) _ >>= _) _ _ s
    refine wpAny_bind (wpAny_tryCatch (wk.done s _ _ (jn ▸ k3) fun hz tz kz => ?_))
    have k5z := kz B _ nBw k5
    show wpAny _ A.in1 (updateSeq B (fun _ => #[]) >>= _) _ _ _
    refine wpAny_bind (wpAny_updateSeq k5z rfl (wpAny_bind (wpAny_letGo (wpAny_pure ?_))))
    exact k6 vb _ tz (by rw [← jn]; exact k4) fun b o z1 z2 e => (Heap.get?_update_other _ _ (Ne.symm z2)).trans (kz b o z1 e)
  | succ k ih =>
    intro j s vb c k1 k2 k3 k4 k5 k6
    have jn : j + 1 < n := by omega
    refine codeAny_builtin F.entry_max_loop ?_ ; rw [Around.under_plainId F.plain_max_loop _]
    show wpAny _ A.in1 (seqItems? (.ref B) >>= _) _ _ s
    refine wpAny_bind (wpAny_seqItems k5 rfl ?_) ; show wpAny _ A.in1 (tryCatch (pyNext (.ref J)) _ >>= _) _ _ s
    refine wpAny_bind (wpAny_tryCatch (wk.item (j + 1) s _ _ jn k3 fun v hz tz pz sz kz => ?_))
    have k5z := kz B _ nBw k5
    show wpAny _ A.in1 (tryCatch (holding [v, v] (richCompare .Gt v vb >>= _)) _ >>= _) _ _ _
    refine wpAny_bind (wpAny_tryCatch (wpAny_holding (wpAny_bind (cm (j + 1) (argBest bt j) v vb _ _ _ pz k4 ?_))))
    refine wpAny_bind (wpAny_holding (wpAny_truthy_bool ?_)) ; refine wpAny_bind (wpAny_letGo (wpAny_pure ?_))
    cases hb : bt (j + 1) (argBest bt j) with
    | true =>
      simp only [if_true]
      refine wpAny_bind ?_ ; refine wpAny_updateSeq k5z rfl ?_ ; refine wpAny_bind (wpAny_letGo ?_)
      rw [lname]
      refine wpAny_pure ⟨plainId_quiet F.plain_max_loop _, ih (j + 1) _ v _ (by omega) jn (wk.frame _ _ _ sz fun b z1 o e => (Heap.get?_update_other _ _ (fun z : B = b => nB (by rw [z]; exact z1))).trans e) (by simp only [argBest, hb, if_true]; exact pz) (Heap.get?_update_self _ k5z rfl) fun v2 h2 t2 p2 q2 => ?_⟩
      exact k6 v2 h2 t2 p2 fun b o z1 z2 e => q2 b o z1 z2 ((Heap.get?_update_other _ _ (Ne.symm z2)).trans (kz b o z1 e))
    | false =>
      simp only [Bool.false_eq_true, if_false]
      refine wpAny_bind (wpAny_letGo ?_)
      rw [lname]
      refine wpAny_pure ⟨plainId_quiet F.plain_max_loop _, ih (j + 1) _ vb c (by omega) jn sz (by simp only [argBest, hb, Bool.false_eq_true, if_false]; exact k4) k5z fun v2 h2 t2 p2 q2 => ?_⟩
      exact k6 v2 h2 t2 p2 fun b o z1 z2 e => q2 b o z1 z2 (kz b o z1 e)
theorem loopF (wk : Walks prog w A.in1 J fp wr n P St) (bt : Nat → Nat → Bool) (cm : CmpOf prog w A.in1 .Gt P bt) (B : Addr) (nB : B ∉ fp) {s : Shared} {c : Nat} (k3 : St 0 s.heap)
    (k5 : s.heap.get? B = some { cls := .type "list", dict := none, data := .seq #[] c, slots := #[] })
    (k0 : n = 0 → ∀ h' tk, (∀ b o, b ∉ wr → b ≠ B → s.heap.get? b = some o → h'.get? b = some o) → Rz (.ok (.ret d)) { s with heap := h', toks := tk })
    (k6 : 0 < n → ∀ v h' tk, P (argBest bt (n - 1)) v → (∀ b o, b ∉ wr → b ≠ B → s.heap.get? b = some o → h'.get? b = some o) → Rz (.ok (.ret v)) { s with heap := h', toks := tk }) :
    codeAny (model prog w) A (.builtin "max.loop" ⟨[.ref J, .none, .ref B], [(Str.ofString "default", d)]⟩) Rz s := by
  have nBw : B ∉ wr := fun z => nB (wk.sub _ z)
  refine codeAny_builtin F.entry_max_loop ?_ ; rw [Around.under_plainId F.plain_max_loop _]
  show wpAny _ A.in1 (seqItems? (.ref B) >>= _) _ _ s
  refine wpAny_bind (wpAny_seqItems k5 rfl ?_) ; show wpAny _ A.in1 (tryCatch (pyNext (.ref J)) _ >>= _) _ _ s
  by_cases hn : n = 0
  · refine wpAny_bind (wpAny_tryCatch (wk.done s _ _ (hn ▸ k3) fun hz tz kz => ?_))
    show wpAny _ A.in1 (rule _ >>= _) _ _ _
    exact wpAny_bind (wpAny_rule (wpAny_pure (k0 hn _ tz fun b o z1 z2 e => kz b o z1 e)))
  · have hn : 0 < n := by omega
    refine wpAny_bind (wpAny_tryCatch (wk.item 0 s _ _ hn k3 fun v hz tz pz sz kz => ?_))
    have k5z := kz B _ nBw k5
    show wpAny _ A.in1 (updateSeq B (fun _ => #[v, v]) >>= _) _ _ _
    refine wpAny_bind (wpAny_updateSeq k5z rfl ?_)
    rw [lname]
    refine wpAny_pure ⟨plainId_quiet F.plain_max_loop _, loopM wk bt cm B nB _ 0 _ v _ rfl hn (wk.frame _ _ _ sz fun b z1 o e => (Heap.get?_update_other _ _ (fun z : B = b => nB (by rw [z]; exact z1))).trans e) pz (Heap.get?_update_self _ k5z rfl) fun v2 h2 t2 p2 q2 => ?_⟩
    exact k6 hn v2 h2 t2 p2 fun b o z1 z2 e => q2 b o z1 z2 ((Heap.get?_update_other _ _ (Ne.symm z2)).trans (kz b o z1 e))
end
section
variable {prog : Program} {w : World} {A : Around} {E : Value → Shared → Prop} {s : Shared} {d : Value}
theorem treeK {id : String} {b : Builtin} {args : List Value} {kw : List (Str × Value)} {Q : Value → Shared → Prop} (k1 : builtinKind id = none) (k2 : plainId id = true) (k3 : entryFor table id = some b) (k4 : argsOk id ⟨args, kw⟩)
    (k5 : wpAny (model prog w) A.in1 (b ⟨args, kw⟩) (fun fin s' => match fin with
      | .done f => (match (Except.ok f : Result) with | .ok (.ret v) => Q v s' | .ok _ => False | .error e => E e s')
      | .again c2 => c2.quiet = true ∧ codeAny (model prog w) A c2 (fun r s' => match r with | .ok (.ret v) => Q v s' | .ok _ => False | .error e => E e s') s') E s) :
    wpAny (model prog w) A (call (.builtin id) args kw) Q E s := by
  refine wpAny_call (codeAny_call_builtin k2 k3 ?_) ; simp only [checkBuiltinCall, k1]
  cases q : Manifest.signature? id with
  | none => exact wpAny_pure k5
  | some sig =>
    simp only [argsOk, q] at k4
    have z : Bind.checkArgs id sig ⟨args, kw⟩ = pure () := k4
    show wpAny _ A.in1 (Bind.checkArgs id sig ⟨args, kw⟩) _ _ s ; rw [z] ; exact wpAny_pure k5
theorem callM {x : Value} {Q : Value → Shared → Prop}
    (h : wpAny (model prog w) A.in1 (pyIter x) (fun it s2 => ∃ J fp wr n P St bt, it = .ref J ∧ Walks prog w A.in1 J fp wr n P St ∧ St 0 s2.heap ∧ (∀ b ∈ fp, b < s2.heap.objs.size) ∧ CmpOf prog w A.in1 .Gt P bt ∧
      (n = 0 → ∀ h' tk, (∀ b o, b ∉ wr → s2.heap.get? b = some o → h'.get? b = some o) → Q d { s2 with heap := h', toks := tk }) ∧
      (0 < n → ∀ v h' tk, P (argBest bt (n - 1)) v → (∀ b o, b ∉ wr → s2.heap.get? b = some o → h'.get? b = some o) → Q v { s2 with heap := h', toks := tk })) E s) :
    wpAny (model prog w) A (call (.builtin "max") [x] [(Str.ofString "default", d)]) Q E s := by
  refine treeK F.kind_max F.plain_max F.entry_max (margs _ _) ?_
  show wpAny _ A.in1 (Builtin.Builtins.bindParams "max" ["key", "default"] 0 ⟨[], [(Str.ofString "default", d)]⟩ >>= _) _ _ s
  refine wpAny_bind (wpAny_of_eq (mbind d) (wpAny_bind (wpAny_pure (wpAny_bind (wpAny_mono h (fun it s2 h2 => ?_) fun _ _ e => e)))))
  obtain ⟨J, fp, wr, n, P, St, bt, rfl, wk, k3, k7, cm, q0, q1⟩ := h2
  refine wpAny_bind (wpAny_newObj_type ?_)
  have nB : s2.heap.objs.size ∉ fp := fun z => Nat.lt_irrefl _ (k7 _ z)
  rw [lname]
  refine wpAny_pure ⟨plainId_quiet F.plain_max_loop _, loopF wk bt cm s2.heap.objs.size nB (wk.frame _ _ _ k3 fun b z o e => Heap.get?_push_of_some _ e) (Heap.get?_push_size _ rfl) (fun z h' tk kz => ?_) fun z v h' tk pz kz => ?_⟩
  · exact q0 z h' tk fun b o z1 e => kz b o z1 (Nat.ne_of_lt (Heap.lt_size e)) (Heap.get?_push_of_some _ e)
  · exact q1 z v h' tk pz fun b o z1 e => kz b o z1 (Nat.ne_of_lt (Heap.lt_size e)) (Heap.get?_push_of_some _ e)
theorem intsM {l : Addr} {xs : Array (Int × Tok)} {Q : Value → Shared → Prop} (hh : A.handled = none) (hl : s.heap.IsList l (intItems xs))
    (h0 : xs.size = 0 → ∀ h' tk, (∀ b o, s.heap.get? b = some o → h'.get? b = some o) → Q d { s with heap := h', toks := tk })
    (h1 : 0 < xs.size → ∀ v h' tk, (intItems xs)[argBest (fun i j => decide (numAt xs i > numAt xs j)) (xs.size - 1)]? = some v → (∀ b o, s.heap.get? b = some o → h'.get? b = some o) → Q v { s with heap := h', toks := tk }) :
    wpAny (model prog w) A (call (.builtin "max") [.ref l] [(Str.ofString "default", d)]) Q E s := by
  refine callM (iter_intList hl fun s2 e st hfp hlI => ?_)
  subst e
  refine ⟨_, _, _, _, _, _, _, rfl, Walks.list (A := A.in1) hh _ l hlI (intItems xs), st, hfp, CmpOf.ints_gt (numAt xs) (fun _ _ => intItems_at), fun z h' tk hk => ?_, fun z v h' tk hP hk => ?_⟩
  · exact h0 (by simpa [intItems] using z) h' tk (old_kept hk)
  · exact h1 (by simpa [intItems] using z) v h' tk (by simpa [intItems] using hP) (old_kept hk)
end
end MxD

namespace HD
open PySem PySem.Spec L2
open PyProof.Rows hiding St
def maxI (k : Int) : List Int → Int
  | [] => k
  | [x] => x
  | x :: y :: r => if maxI k (y :: r) ≤ x then x else maxI k (y :: r)
theorem maxI_ok (k : Int) : ∀ ns : List Int, ns ≠ [] → maxI k ns ∈ ns ∧ ∀ y ∈ ns, y ≤ maxI k ns
  | [], h => absurd rfl h
  | [x], _ => ⟨by simp [maxI], fun y hy => by simp at hy; subst hy; exact Int.le_refl _⟩
  | x :: z :: r, _ => by
    obtain ⟨h1, h2⟩ := maxI_ok k (z :: r) (by simp)
    unfold maxI
    by_cases h : maxI k (z :: r) ≤ x
    · rw [if_pos h]
      refine ⟨by simp, fun y hy => ?_⟩
      rcases List.mem_cons.mp hy with rfl | hy
      · exact Int.le_refl _
      · exact Int.le_trans (h2 y hy) h
    · rw [if_neg h]
      refine ⟨List.mem_cons_of_mem _ h1, fun y hy => ?_⟩
      rcases List.mem_cons.mp hy with rfl | hy
      · omega
      · exact h2 y hy
theorem maxI_eq {k m : Int} {ns : List Int} (h0 : ns = [] → m = k) (h1 : ns ≠ [] → m ∈ ns ∧ ∀ y ∈ ns, y ≤ m) : m = maxI k ns := by
  by_cases e : ns = []
  · subst e; exact h0 rfl
  · obtain ⟨a, b⟩ := h1 e
    obtain ⟨c, d⟩ := maxI_ok k ns e
    exact Int.le_antisymm (d m a) (b _ c)
def fMax1 : List D → Option D
  | [.lst ds] => match toInts ds with
    | some [] => none
    | some (n :: ns) => some (.int (maxI 0 (n :: ns)))
    | none => none
  | _ => none
def fMaxD (k : Int) : List D → Option D
  | [.lst ds] => (toInts ds).map fun ns => .int (maxI k ns)
  | _ => none
section
variable {K : PySem.W.Frag}
theorem reps_ints {o : Option Addr} {G : Hp} : ∀ {ns : List Int} {vs : List V}, Reps K o G (ns.map D.int) vs → vs = ns.map V.int
  | [], vs, r => by unfold Reps at r; exact r
  | n :: ns, vs, r => by
    rw [List.map_cons] at r
    unfold Reps at r
    obtain ⟨v, t, rfl, r1, r2⟩ := r
    unfold Rep at r1
    subst r1
    rw [reps_ints r2]
    rfl
theorem a_max1 : ArD K (rMax K) fMax1 := by
  intro o G H ds vs d Q s r e q
  unfold fMax1 at e
  split at e
  case h_2 => cases e
  case h_1 xs =>
    split at e
    case h_1 => cases e
    case h_3 => cases e
    case h_2 n ns h1 =>
      cases e
      obtain ⟨v, rfl, r1⟩ := reps1 r
      have hx := toInts_eq h1
      subst hx
      unfold Rep at r1
      obtain ⟨a, us, rfl, a1, a2, a3⟩ := r1
      rw [reps_ints a3] at a1
      refine ⟨a, n :: ns, rfl, .of (s _ _ a1), by simp, fun m m1 m2 => ?_⟩
      have hm : m = maxI 0 (n :: ns) := maxI_eq (fun z => by cases z) fun _ => ⟨m1, m2⟩
      rw [hm]
      exact q _ H G (Same.refl _) (Gr.refl s) (by unfold Rep; rfl)
end
def fIntB : List D → Option D
  | [.bl b] => some (.int (if b then 1 else 0))
  | _ => none
theorem a_intb {K : PySem.W.Frag} : ArD K (fun xs H Q => (∃ i, xs = [.int i] ∧ Q (.int i) H) ∨ ∃ k : Bool, xs = [.bl k] ∧ Q (.int (if k then 1 else 0)) H) fIntB := by
  intro o G H ds vs d Q s r e q
  unfold fIntB at e
  split at e
  case h_2 => cases e
  case h_1 b =>
    cases e
    obtain ⟨v, rfl, r1⟩ := reps1 r
    unfold Rep at r1
    subst r1
    exact .inr ⟨b, rfl, q _ H G (Same.refl _) (Gr.refl s) (by unfold Rep; rfl)⟩
def rMaxDef (K : PySem.W.Frag) (k : Int) : List V → List V → Hp → VK → Prop := fun vs zs H Q => ∃ (a : Addr) (ns : List Int), vs = [.ref a] ∧ zs = [.int k] ∧ SqL K H a (ns.map V.int) ∧ Q (.int (maxI k ns)) H
section
variable {X : Cx} {W : WD}
theorem cr_maxDef {k : Int} (hc : X.calm = true) : CallRK X (.builtin "max") [Str.ofString "default"] (rMaxDef X.K k) := by
  intro pins s σ H vs zs us ws Q I r rz h
  obtain ⟨a, ns, rfl, rfl, hs, q⟩ := h
  obtain rfl := Vals.ref1 r
  obtain ⟨w1, rfl, t1, rfl⟩ := vals1 rz
  obtain ⟨its, rv, hl, _⟩ := I.list hs
  have hi := rv.ints
  obtain ⟨xs, e⟩ := hi.allInts.items
  have hn : numsOf (intItems xs).toList = ns := by rw [← e]; exact hi.numsOf
  rw [nums_intItems] at hn
  subst hn
  have hl := hl.isList
  rw [e] at hl
  refine MxD.intsM (I.ok.hd hc) hl (fun h0 h' tk hk => ?_) fun h1 v h' tk hv hk => ?_
  · refine ⟨.int k, H, I.kept hk, ⟨_, rfl⟩, ?_⟩
    have e0 : k = maxI k (List.map (·.1) xs.toList) := maxI_eq (fun _ => rfl) fun z => by
      refine absurd ?_ z
      rw [List.map_eq_nil_iff]
      exact List.length_eq_zero_iff.mp (by rw [Array.length_toList]; exact h0)
    rw [e0]
    exact q
  · obtain ⟨t, rfl⟩ := intItems_at hv
    obtain ⟨b1, b2⟩ := argBest_gt (numAt xs) (xs.size - 1)
    refine ⟨.int _, H, I.kept hk, ⟨_, rfl⟩, ?_⟩
    have e0 := maxI_eq (k := k) (m := numAt xs (argBest (fun i j => decide (numAt xs i > numAt xs j)) (xs.size - 1))) (ns := List.map (·.1) xs.toList) (fun z => by
      have := congrArg List.length z
      rw [List.length_map, Array.length_toList, List.length_nil] at this
      omega) fun _ => ⟨by rw [numAt_eq]; exact PySem.getD_mem (by rw [List.length_map, Array.length_toList]; omega), fun y hy => by
        obtain ⟨j, hj, rfl⟩ := mem_getD hy
        rw [List.length_map, Array.length_toList] at hj
        rw [← numAt_eq]; exact b2 j (by omega)⟩
    rw [e0]
    exact q
theorem de_maxD {x : Str} {p pos j kpos : Pos} {e : Expr} {k : Int} {g : EM (List D)} {i : Nat} (hc : X.calm = true) (hg : Gl X x) (hm : X.mg x = none) (hv : bootBuiltins x = some (.builtin "max")) (ha : DA X W [e] g) (hn : x ≠ "__name__" := by decide) (hdb : (x == ("__debug__" : Str)) = false := by decide)
    (he : backTo pos (starEach [e] X.env) = (false, eval e X.env) :: backTo pos (starEach [] X.env) := by rfl) (hpl : (backTo pos (starEach [e] X.env)).any (·.1) = false := by rfl) :
    DE X W (.Call (.Name x p) [e] [⟨some (Str.ofString "default"), .Constant (.int k) i j, kpos⟩] pos) (eArgs (fMaxD k) g) := by
  refine pe_imp (pe_callBK (cr_maxDef (k := k) hc) hg hm hv ha (pk_cons pe_int pk_nil) hn hdb he hpl) fun σ H Q hq => ?_
  obtain ⟨C, l, rw, G, S, hp⟩ := hq
  refine seqA (P := PEq X.K W C l σ H G Q) S hp (fun _ _ z => z) (fun z => z) fun ds rw1 vs H1 G1 S1 s1 r1 h1 => ?_
  dsimp only [PEq] at h1
  cases e3 : fMaxD k ds with
  | none => rw [e3] at h1; exact h1.elim
  | some d =>
    rw [e3] at h1
    unfold fMaxD at e3
    split at e3
    case h_2 => cases e3
    case h_1 xs =>
      cases e4 : toInts xs with
      | none => rw [e4] at e3; cases e3
      | some ns =>
        rw [e4] at e3
        cases e3
        obtain ⟨v, rfl, r2⟩ := reps1 r1
        have hx := toInts_eq e4
        subst hx
        unfold Rep at r2
        obtain ⟨a, us, rfl, a1, a2, a3⟩ := r2
        rw [reps_ints a3] at a1
        exact ⟨a, ns, rfl, rfl, .of (S1.sub _ _ a1), h1 (.int (maxI k ns)) H1 G1 S1 s1 (by unfold Rep; rfl)⟩
end
end HD
end
section
/-! The data layer: dicts of whole-number keys. -/
namespace HD
open PySem PySem.Spec L2
open PyProof.Rows hiding St
/-! ### what a dict tells -/
def lkD : List Int → List D → Int → Option D
  | k' :: ks, x :: xs, k => if k' = k then some x else lkD ks xs k
  | _, _, _ => none
def stD : List Int → List D → Int → D → List D
  | k' :: ks, x :: xs, k, d => (if k' = k then d else x) :: stD ks xs k d
  | _, _, _, _ => []
def putKs (ks : List Int) (k : Int) : List Int := if k ∈ ks then ks else ks ++ [k]
def putXs (ks : List Int) (xs : List D) (k : Int) (d : D) : List D := if k ∈ ks then stD ks xs k d else xs ++ [d]
section
variable {K : PySem.W.Frag} {r : Option Addr} {G : Hp}
theorem lk_ok : ∀ {kvs : List (Key × V)} {ks : List Int} {xs : List D}, kvs.map (·.1) = ks.map Sum.inl → Reps K r G xs (kvs.map (·.2)) → ∀ k : Int,
    (∀ d, lkD ks xs k = some d → ∃ v, valV kvs (Sum.inl k : Key) = some v ∧ Rep K r G d v) ∧ (lkD ks xs k = none → valV kvs (Sum.inl k : Key) = none)
  | [], ks, xs, h1, h2, k => by
    have e1 : ks = [] := by
      cases ks with
      | nil => rfl
      | cons _ _ => simp at h1
    subst e1
    exact ⟨fun d h => by simp [lkD] at h, fun _ => valV_nil⟩
  | p :: kvs, ks, xs, h1, h2, k => by
    cases ks with
    | nil => simp at h1
    | cons k' ks =>
      rw [List.map_cons, List.map_cons] at h1
      injection h1 with h1 h1'
      cases xs with
      | nil => have := h2.length; simp at this
      | cons x xs =>
        rw [List.map_cons] at h2
        unfold Reps at h2
        obtain ⟨v, t, e, r1, r2⟩ := h2
        injection e with e1 e2
        subst e1 e2
        obtain ⟨i1, i2⟩ := lk_ok h1' r2 k
        by_cases hk : k' = k
        · subst hk
          refine ⟨fun d h => ?_, fun h => ?_⟩
          · simp only [lkD, if_true] at h
            cases h
            exact ⟨p.2, valV_pos h1, r1⟩
          · simp [lkD] at h
        · have ne : ¬ p.1 = (Sum.inl k : Key) := fun z => hk (Sum.inl.inj (h1.symm.trans z))
          refine ⟨fun d h => ?_, fun h => ?_⟩
          · simp only [lkD, if_neg hk] at h
            obtain ⟨v, a, b⟩ := i1 d h
            exact ⟨v, by rw [valV_neg ne]; exact a, b⟩
          · simp only [lkD, if_neg hk] at h
            rw [valV_neg ne]; exact i2 h
theorem any_key {kvs : List (Key × V)} : ∀ {ks : List Int}, kvs.map (·.1) = ks.map Sum.inl → ∀ k : Int, (kvs.any fun kv => decide (kv.1 = (Sum.inl k : Key))) = decide (k ∈ ks) := by
  induction kvs with
  | nil =>
    intro ks h k
    cases ks with
    | nil => rfl
    | cons _ _ => simp at h
  | cons p kvs ih =>
    intro ks h k
    cases ks with
    | nil => simp at h
    | cons k' ks =>
      rw [List.map_cons, List.map_cons] at h
      injection h with h1 h2
      rw [List.any_cons, ih h2 k]
      by_cases hk : k = k'
      · subst hk
        rw [decide_eq_true h1]; simp
      · rw [decide_eq_false (fun z => hk (Sum.inl.inj (z.symm.trans h1)))]
        simp [hk]
theorem st_ok {k : Int} {d : D} {v : V} (rv : Rep K r G d v) : ∀ {kvs : List (Key × V)} {ks : List Int} {xs : List D}, kvs.map (·.1) = ks.map Sum.inl → Reps K r G xs (kvs.map (·.2)) →
    (kvs.map fun kv => if kv.1 = (Sum.inl k : Key) then (kv.1, v) else kv).map (·.1) = ks.map Sum.inl ∧ Reps K r G (stD ks xs k d) ((kvs.map fun kv => if kv.1 = (Sum.inl k : Key) then (kv.1, v) else kv).map (·.2))
  | [], ks, xs, h1, h2 => by
    have e1 : ks = [] := by
      cases ks with
      | nil => rfl
      | cons _ _ => simp at h1
    subst e1
    have e2 : xs = [] := List.length_eq_zero_iff.mp (by have := h2.length; simpa using this)
    subst e2
    exact ⟨rfl, Reps.nil⟩
  | p :: kvs, ks, xs, h1, h2 => by
    cases ks with
    | nil => simp at h1
    | cons k' ks =>
      rw [List.map_cons, List.map_cons] at h1
      injection h1 with h1 h1'
      cases xs with
      | nil => have := h2.length; simp at this
      | cons x xs =>
        rw [List.map_cons] at h2
        unfold Reps at h2
        obtain ⟨u, t, e, r1, r2⟩ := h2
        injection e with e1 e2
        subst e1 e2
        obtain ⟨i1, i2⟩ := st_ok (k := k) (d := d) (v := v) rv h1' r2
        rw [List.map_cons]
        by_cases hk : k' = k
        · subst hk
          rw [if_pos h1]
          refine ⟨?_, ?_⟩
          · rw [List.map_cons, List.map_cons, i1]
            exact congrArg (· :: _) h1
          · unfold stD
            rw [if_pos rfl]
            exact Reps.cons rv i2
        · have ne : ¬ p.1 = (Sum.inl k : Key) := fun z => hk (Sum.inl.inj (h1.symm.trans z))
          rw [if_neg ne]
          refine ⟨?_, ?_⟩
          · rw [List.map_cons, List.map_cons, i1]
            exact congrArg (· :: _) h1
          · unfold stD
            rw [if_neg hk]
            exact Reps.cons r1 i2
theorem put_ok {k : Int} {d : D} {v : V} (rv : Rep K r G d v) {kvs : List (Key × V)} {ks : List Int} {xs : List D} (h1 : kvs.map (·.1) = ks.map Sum.inl) (h2 : Reps K r G xs (kvs.map (·.2))) :
    (putK kvs (Sum.inl k : Key) v).map (·.1) = (putKs ks k).map Sum.inl ∧ Reps K r G (putXs ks xs k d) ((putK kvs (Sum.inl k : Key) v).map (·.2)) := by
  unfold putK putKs putXs
  rw [any_key h1 k]
  by_cases hk : k ∈ ks
  · rw [if_pos (decide_eq_true hk), if_pos hk, if_pos hk]
    exact st_ok rv h1 h2
  · rw [if_neg (by rw [decide_eq_false hk]; decide), if_neg hk, if_neg hk]
    refine ⟨by rw [List.map_append, List.map_append, h1]; rfl, ?_⟩
    rw [List.map_append]
    exact h2.append (Reps.cons rv Reps.nil)
theorem putKs_le (ks : List Int) (k : Int) : (putKs ks k).length ≤ ks.length + 1 := by
  unfold putKs
  split
  · omega
  · simp
end
/-! ### a dict of one's own: {}, d[k] = v -/
section
variable {X : Cx} {W : WD} {own : Bool}
theorem do_dnew {pos : Pos} : DO X W (.Dict [] [] pos) (eK (.dic [] [])) := by
  refine pe_imp pe_dnewK fun σ H Q hq => ?_
  obtain ⟨C, l, rw, G, S, hp⟩ := hq
  intro p hp0
  exact hp p _ _ (S.newO hp0) (Gr.newO S.sub hp0) hp0 (S.ownNew hp0 ⟨[], [], rfl, Nat.zero_le _, rfl, rfl, Reps.nil⟩ rfl)
def sDput (i : Nat) (gk gv : EM D) : SM := fun l rw => match l[i]? with
  | some (.own (.dic ks xs)) => (gv l rw).bind fun p => (gk l p.2).bind fun q => match q.1 with
    | .int k => if ks.length < 100000 then .ok (.next, l.set i (.own (.dic (putKs ks k) (putXs ks xs k p.1))), q.2) else .stuck
    | _ => .stuck
  | _ => .stuck
theorem ds_dput {i : Nat} {st : Stmt} {gk gv : EM D} (h : PS X st (sDPut (tVar i) (tD X.K W gk) (tD X.K W gv))) : DS X W own st (sDput i gk gv) := by
  refine ps_imp h fun E σ H hq => ?_
  obtain ⟨C, l, rw, G, S, hp⟩ := hq
  unfold sDput at hp
  split at hp
  case h_2 => exact hp.elim
  case h_1 ks xs e0 =>
    refine seqD (P := PSq X.K W own C E) S hp (fun x w z H' G' S' => z l σ H' G' S') (fun z => z) fun d1 rw1 v1 H1 G1 S1 s1 r1 h1 => ?_
    obtain ⟨p, e1, _⟩ := S1.ownAt e0
    refine ⟨.ref p, e1, ?_⟩
    refine seqD (P := PSq X.K W own C E) S1 h1 (fun x w z H' G' S' => z l σ H' G' S') (fun z => z) fun d2 rw2 v2 H2 G2 S2 s2 r2 h2 => ?_
    dsimp only [PSq] at h2
    cases d2 with
    | int k =>
      dsimp only at h2
      by_cases hl : ks.length < 100000
      case neg => rw [if_neg hl] at h2; exact h2.elim
      rw [if_pos hl] at h2
      unfold Rep at r2
      subst r2
      obtain ⟨p', e1', ow⟩ := S2.ownAt e0
      rw [e1] at e1'; cases e1'
      obtain ⟨q, eq, hg, h0, hr, kvs, vs, b1, b2, b3, b4, b5⟩ := ow
      cases eq
      subst b4
      have hkl : kvs.length = ks.length := by have := congrArg List.length b3; simpa using this
      obtain ⟨c1, c2⟩ := put_ok (k := k) (r1.mono s2.g) b3 b5
      refine ⟨p, _, rfl, DPut.k (k := Sum.inl k) b1 (by rw [sizeLine_eq]; omega), ?_⟩
      refine h2 σ _ G2 (S2.mutAt e0 e1 rfl ⟨_, _, rfl, ?_, c1, rfl, c2⟩)
      have z := length_putK kvs (Sum.inl k : Key) v1
      rw [sizeLine_eq]; omega
    | _ => exact h2.elim
end
/-! ### a dict looked at -/
def fIxD (d k : D) : Option D := match d with
  | .dic ks xs => (match k with
    | .int k => lkD ks xs k
    | _ => none)
  | d => fIx d k
def fIxDc (d k : D) : Option D := match d, k with
  | .dic ks xs, .int k => lkD ks xs k
  | _, _ => none
def rIxDc : R2 := fun x y H Q => ∃ a v, x = .ref a ∧ DGet H a y (some v) ∧ Q v H
theorem ix_dct {X : Cx} (hu : X.A.units + 1 < cLine) : IxR X rIxDc := by
  intro value slice pins s σ H x y v u Q I rx ry h hs
  obtain ⟨a, z, rfl, g, q⟩ := h
  cases rx
  exact tail_any (dict_typeIs I g) PySem.F.slot_dict_getitem.lookup (d_getItem hu I g ry fun w' s3 I3 rw' => ⟨z, H, I3, rw', q⟩) hs
theorem o_ixDc {K : PySem.W.Frag} : OpD K rIxDc fIxDc := by
  intro o G H d1 d2 v1 v2 d Q s r1 r2 e q
  unfold fIxDc at e
  split at e
  case h_2 => cases e
  case h_1 ks xs k =>
    unfold Rep at r1 r2
    subst r2
    obtain ⟨a, od, kvs, vs, rfl, a1, a2, a3, rfl, a5⟩ := r1
    obtain ⟨v, b1, b2⟩ := (lk_ok a3 a5 k).1 d e
    exact ⟨a, v, rfl, .inl ⟨kvs, Sum.inl k, .inr ⟨od, s _ _ a1⟩, rfl, b1.symm⟩, q v H G (Same.refl _) (Gr.refl s) b2⟩
theorem o_ixD {K : PySem.W.Frag} : OpD K (fun x y H Q => rIx K x y H Q ∨ rIxDc x y H Q) fIxD := by
  refine OpD.or o_ix o_ixDc fun x y d e => ?_
  cases x <;> first | exact .inl e | skip
  right
  cases y <;> first | exact e | cases e
section
variable {X : Cx} {W : WD}
theorem de_ixD {a b : Expr} {ga gb : EM D} {pos : Pos} (hu : X.A.units + 1 < cLine) (ha : DE X W a ga) (hb : DE X W b gb) (hs : PlainIx b) : DE X W (.Subscript a b pos) (eBin fIxD ga gb) := de_ix (ix_seq.or (ix_dct hu)) o_ixD ha hb hs
/-- k in d -/
def fDin (neg : Bool) (k d : D) : Option D := match k, d with
  | .int k, .dic ks xs => some (.bl (if neg = true then !(lkD ks xs k).isSome else (lkD ks xs k).isSome))
  | _, _ => none
theorem dget_of {K : PySem.W.Frag} {r : Option Addr} {G H : Hp} {ks : List Int} {xs : List D} {k : Int} {v : V} (s : Same G H) (r1 : Rep K r G (.dic ks xs) v) :
    ∃ a o, v = .ref a ∧ DGet H a (.int k) o ∧ IsD H a ∧ o.isSome = (lkD ks xs k).isSome ∧ ∀ d, lkD ks xs k = some d → ∃ u, o = some u ∧ Rep K r G d u := by
  unfold Rep at r1
  obtain ⟨a, od, kvs, vs, rfl, a1, a2, a3, rfl, a5⟩ := r1
  obtain ⟨b1, b2⟩ := lk_ok a3 a5 k
  refine ⟨a, valV kvs (Sum.inl k : Key), rfl, .inl ⟨kvs, Sum.inl k, .inr ⟨od, s _ _ a1⟩, rfl, rfl⟩, .inl ⟨kvs, .inr ⟨od, s _ _ a1⟩⟩, ?_, b1⟩
  cases e : lkD ks xs k with
  | none => rw [b2 e]; rfl
  | some d =>
    obtain ⟨u, e2, _⟩ := b1 d e
    rw [e2]; rfl
theorem redDin {K : PySem.W.Frag} {gk gd : EM D} (neg : Bool) : ∀ σ H Q, tD K W (eBin (fDin neg) gk gd) σ H Q → (if neg = true then tDNotIn (tD K W gk) (tD K W gd) else tDIn (tD K W gk) (tD K W gd)) σ H Q := by
  intro σ H Q hq
  obtain ⟨C, l, rw, G, S, hp⟩ := hq
  have core : ∀ (T : V → V → Hp → Prop), (∀ a o y H2 G2 rw2, SR K C l rw2 σ H2 G2 → Gr K C.r H G H2 G2 → DGet H2 a y o → PEq K W C l σ H G Q (.ok (.bl (if neg = true then !o.isSome else o.isSome), rw2)) → T y (.ref a) H2) →
      tD K W gk σ H fun y H1 => tD K W gd σ H1 fun x H2 => T y x H2 := by
    intro T hT
    refine seqD (P := PEq K W C l σ H G Q) S hp (fun _ _ z => z) (fun z => z) fun d1 rw1 v1 H1 G1 S1 s1 r1 h1 => ?_
    refine seqD (P := PEq K W C l σ H G Q) S1 h1 (fun _ _ z => z) (fun z => z) fun d2 rw2 v2 H2 G2 S2 s2 r2 h2 => ?_
    dsimp only [PEq] at h2
    cases d1 with
    | int k =>
      cases d2 with
      | dic ks xs =>
        unfold Rep at r1
        subst r1
        obtain ⟨a, o, rfl, g, _, e3, _⟩ := dget_of (k := k) S2.sub r2
        refine hT a o _ H2 G2 rw2 S2 (s1.trans s2) g ?_
        rw [e3]
        exact h2
      | _ => exact h2.elim
    | _ => cases d2 <;> exact h2.elim
  cases neg with
  | true =>
    rw [if_pos rfl]
    exact core (fun y x H2 => ∃ a o, x = .ref a ∧ DGet H2 a y o ∧ Q (.bl (!o.isSome)) H2) fun a o y H2 G2 rw2 S2 g2 g h => ⟨a, o, rfl, g, h (.bl (!o.isSome)) H2 G2 S2 g2 (by unfold Rep; rfl)⟩
  | false =>
    rw [if_neg (by decide)]
    exact core (fun y x H2 => ∃ a o, x = .ref a ∧ DGet H2 a y o ∧ Q (.bl o.isSome) H2) fun a o y H2 G2 rw2 S2 g2 g h => ⟨a, o, rfl, g, h (.bl o.isSome) H2 G2 S2 g2 (by unfold Rep; rfl)⟩
theorem de_din {i o : Expr} {pos : Pos} {gk gd : EM D} (hu : X.A.units + 1 < cLine) (hi : DE X W i gk) (ho : DE X W o gd) (h1 : behindInMarks .In o = false := by rfl) : DE X W (.Compare i [.In] [o] pos) (eBin (fDin false) gk gd) := pe_imp (pe_cmp (pc_din hu hi ho) h1) (redDin false)
theorem de_dnotin {i o : Expr} {pos : Pos} {gk gd : EM D} (hu : X.A.units + 1 < cLine) (hi : DE X W i gk) (ho : DE X W o gd) (h1 : behindInMarks .NotIn o = false := by rfl) : DE X W (.Compare i [.NotIn] [o] pos) (eBin (fDin true) gk gd) := pe_imp (pe_cmp (pc_dnotin hu hi ho) h1) (redDin true)
theorem dt_din {i o : Expr} {pos : Pos} {gk gd : EM D} (hu : X.A.units + 1 < cLine) (hi : DE X W i gk) (ho : DE X W o gd) (h1 : behindInMarks .In o = false := by rfl) : DT X W (.Compare i [.In] [o] pos) (toB (eBin (fDin false) gk gd)) := dt_pc (pc_din hu hi ho) (redDin false) h1
theorem dt_dnotin {i o : Expr} {pos : Pos} {gk gd : EM D} (hu : X.A.units + 1 < cLine) (hi : DE X W i gk) (ho : DE X W o gd) (h1 : behindInMarks .NotIn o = false := by rfl) : DT X W (.Compare i [.NotIn] [o] pos) (toB (eBin (fDin true) gk gd)) := dt_pc (pc_dnotin hu hi ho) (redDin true) h1
/-- d.get(k), d.get(k, x) -/
def eGet1 (gd gk : EM D) : EM D := fun l rw => (gd l rw).bind fun p => match p.1 with
  | .dic ks xs => (gk l p.2).bind fun q => (match q.1 with
    | .int k => .ok ((lkD ks xs k).getD .non, q.2)
    | _ => .stuck)
  | _ => .stuck
def eGet2 (gd gk gx : EM D) : EM D := fun l rw => (gd l rw).bind fun p => match p.1 with
  | .dic ks xs => (gk l p.2).bind fun q => (gx l q.2).bind fun t => (match q.1 with
    | .int k => .ok ((lkD ks xs k).getD t.1, t.2)
    | _ => .stuck)
  | _ => .stuck
theorem getD_rep {K : PySem.W.Frag} {r : Option Addr} {G : Hp} {od : Option D} {ov : Option V} {d : D} {v : V} (h1 : ov.isSome = od.isSome) (h2 : ∀ e, od = some e → ∃ u, ov = some u ∧ Rep K r G e u) (h : Rep K r G d v) : Rep K r G (od.getD d) (ov.getD v) := by
  cases od with
  | none => cases ov with
    | none => exact h
    | some _ => cases h1
  | some e =>
    obtain ⟨u, rfl, r2⟩ := h2 e rfl
    exact r2
theorem de_get1 {o e : Expr} {apos cpos : Pos} {gd gk : EM D} (hu : X.A.units + 1 < cLine) (ho : DE X W o gd) (he : DE X W e gk) (m : M1 X o "get" apos e cpos) : DE X W (.Call (.Attribute o "get" apos) [e] [] cpos) (eGet1 gd gk) := by
  refine pe_imp (pe_dget1 hu ho he m) fun σ H Q hq => ?_
  obtain ⟨C, l, rw, G, S, hp⟩ := hq
  refine seqD (P := PEq X.K W C l σ H G Q) S hp (fun _ _ z => z) (fun z => z) fun d1 rw1 v1 H1 G1 S1 s1 r1 h1 => ?_
  cases d1 with
  | dic ks xs =>
    obtain ⟨a, _, rfl, _, isd, _⟩ := dget_of (k := 0) S1.sub r1
    refine ⟨a, rfl, isd, ?_⟩
    refine seqD (P := PEq X.K W C l σ H G Q) S1 h1 (fun _ _ z => z) (fun z => z) fun d2 rw2 v2 H2 G2 S2 s2 r2 h2 => ?_
    dsimp only [PEq] at h2
    cases d2 with
    | int k =>
      unfold Rep at r2
      subst r2
      obtain ⟨a', o, e', g, _, e3, e4⟩ := dget_of (k := k) S2.sub (r1.mono s2.g)
      cases e'
      exact ⟨o, g, h2 _ H2 G2 S2 (s1.trans s2) (getD_rep e3 e4 (by unfold Rep; rfl))⟩
    | _ => exact h2.elim
  | _ => exact h1.elim
theorem de_get2 {o e f : Expr} {apos cpos : Pos} {gd gk gx : EM D} (hu : X.A.units + 1 < cLine) (ho : DE X W o gd) (he : DE X W e gk) (hf : DE X W f gx) (m : M2 X o "get" apos e f cpos) : DE X W (.Call (.Attribute o "get" apos) [e, f] [] cpos) (eGet2 gd gk gx) := by
  refine pe_imp (pe_dget2 hu ho he hf m) fun σ H Q hq => ?_
  obtain ⟨C, l, rw, G, S, hp⟩ := hq
  refine seqD (P := PEq X.K W C l σ H G Q) S hp (fun _ _ z => z) (fun z => z) fun d1 rw1 v1 H1 G1 S1 s1 r1 h1 => ?_
  cases d1 with
  | dic ks xs =>
    obtain ⟨a, _, rfl, _, isd, _⟩ := dget_of (k := 0) S1.sub r1
    refine ⟨a, rfl, isd, ?_⟩
    refine seqD (P := PEq X.K W C l σ H G Q) S1 h1 (fun _ _ z => z) (fun z => z) fun d2 rw2 v2 H2 G2 S2 s2 r2 h2 => ?_
    refine seqD (P := PEq X.K W C l σ H G Q) S2 h2 (fun _ _ z => z) (fun z => z) fun d3 rw3 v3 H3 G3 S3 s3 r3 h3 => ?_
    dsimp only [PEq] at h3
    cases d2 with
    | int k =>
      unfold Rep at r2
      subst r2
      obtain ⟨a', o, e', g, _, e3, e4⟩ := dget_of (k := k) S3.sub ((r1.mono s2.g).mono s3.g)
      cases e'
      exact ⟨o, g, h3 _ H3 G3 S3 ((s1.trans s2).trans s3) (getD_rep e3 e4 r3)⟩
    | _ => exact h3.elim
  | _ => exact h1.elim
/-! ### a dict walked -/
def aKeys (g : EM D) : EM (List D) := fun l rw => (g l rw).bind fun p => match p.1 with
  | .dic ks xs => .ok (ks.map .int, p.2)
  | _ => .stuck
theorem walk_k {K : PySem.W.Frag} {r : Option Addr} {G : Hp} {a : Addr} {od : Obj} {kvs : List (Key × V)} {ks : List Int} (h : G a = some (.frz od (.dK kvs))) (q : kvs.map (·.1) = ks.map Sum.inl) : WalkD K r G (Itk a od kvs) (ks.map D.int) := by
  have hl : kvs.length = ks.length := by have := congrArg List.length q; simpa using this
  refine ⟨fun i H s hi => ⟨s _ _ h, ?_⟩, fun i H s hi => ⟨s _ _ h, ?_⟩, fun i H x H' s y d hd => ?_⟩
  · rw [List.length_map] at hi; omega
  · rw [List.length_map] at hi; omega
  · obtain ⟨e, k, v, e1, e2⟩ := y
    refine ⟨e, ?_⟩
    rw [List.getElem?_map] at hd
    cases e3 : ks[i]? with
    | none => rw [e3] at hd; cases hd
    | some k0 =>
      rw [e3] at hd
      cases hd
      have z : (kvs.map (·.1))[i]? = (ks.map Sum.inl)[i]? := by rw [q]
      rw [List.getElem?_map, List.getElem?_map, e1, e3] at z
      have z : k = Sum.inl k0 := Option.some.inj z
      subst z
      unfold Rep
      exact e2
theorem di_keys {tg e : Expr} {g : EM D} (h : DE X W e g) : DI X W tg e (aKeys g) := by
  refine pi_imp (pi_keys h) fun σ H Rr hq => ?_
  obtain ⟨C, l, rw, G, S, hp⟩ := hq
  refine seqD (P := fun q => IPost X.K W C l σ H G q Rr) S hp (fun x w z H' G' S' => z H' G' S') (fun z => z) fun d rw1 v H1 G1 S1 s1 r1 h1 => ?_
  cases d with
  | dic ks xs =>
    unfold Rep at r1
    obtain ⟨a, od, kvs, vs, rfl, a1, a2, a3, rfl, a5⟩ := r1
    exact ⟨a, od, rfl, .inl ⟨kvs, S1.sub _ _ a1, h1 _ H1 G1 S1 s1 (walk_k a1 a3)⟩⟩
  | _ => exact h1.elim
end
end HD
end
section
/-! The data layer: list(d.values()), dict(pairs), max(d), x == [], [] not in x, list(range(..)), xs[i] = v, xs.pop(). -/
namespace HD
open PySem PySem.Spec L2
open PyProof.Rows hiding St
/-! ### list(d.values()) -/
section
variable {X : Cx} {W : WD} {own : Bool} {e : Expr} {te : TE} {p apos cpos pos : Pos}
def tVals (te : TE) : TE := fun σ H Q => te σ H fun x H1 => ∃ d kvs, x = .ref d ∧ Rd H1 d (.dK kvs) ∧ ∀ q, H1 q = none → Q (.ref q) (upd H1 q (.lst (kvs.map (·.2))))
theorem pe_listVals (hc : X.calm = true) (he : PE X e te) (hg : Gl X "list") (hm : X.mg "list" = none) (hv : bootBuiltins "list" = some (.type "list") := by decide +kernel) (hbase : attributeBase e "values" X.env (eval e X.env) = eval e X.env := by rfl) (hline : (apos.endLine == cpos.line) = true := by rfl)
    (hs : starEach [.Call (.Attribute e "values" apos) [] [] cpos] X.env = (false, eval (.Call (.Attribute e "values" apos) [] [] cpos) X.env) :: starEach [] X.env := by rfl) :
    PE X (.Call (.Name "list" p) [.Call (.Attribute e "values" apos) [] [] cpos] [] pos) (tVals te) := by
  refine ⟨fun pins s σ H Q I hq => ?_⟩
  refine wpAny_Call_Name_kw (ld_blt I hg hm hv ?_)
  refine PyProof.Rows.callWith_type1 ?_ hs rfl
  rw [hs]
  show wpAny _ _ (spliced ((false, eval (.Call (.Attribute e "values" apos) [] [] cpos) X.env) :: backTo pos (starEach [] X.env))) _ _ s
  refine Calls.spliced_cons ?_
  refine wpAny_Call_method (T := "dict") (id := "dict.values") hbase rfl hline PySem.F.plainAttrs_dict PySem.F.slot_dict_values PySem.F.type_dict_values (thn (he.run pins s σ H _ I hq) fun u s1 ⟨x, H1, I1, rx, d, kvs, ex, hd, q⟩ => ?_)
  subst ex
  obtain rfl : u = Value.ref d := rx
  obtain ⟨hz, hs0, vs, kv, hdo⟩ := dk_rd I1.hok hd
  obtain ⟨ep, hat⟩ := hdo.dictAt
  have lk : kvs.length = vs.length := Paired.length kv
  refine ⟨hdo.typeIs, hdo.mapOf.noDict, ?_⟩
  show wpAny _ _ (callWith cpos (.builtin "dict.values") [.ref d] [] []) _ X.xe s1
  refine method_meetsIn PySem.F.slot_dict_values PySem.F.entry_dict_values rfl (PySem.evalArgs_none ⟨rfl, hdo.typeIs, PySem.F.args_dict_values_1 _, _, meets_dict_values (mixKind X.prog X.w) d hs0, ⟨vs, hdo⟩, ?_⟩)
  refine Calls.spliced_nil ?_
  have I2 : Inv X pins σ H1 { s1 with heap := s1.heap.push { cls := .type "dict_values", data := .fields #[.ref d] } } := I1.kept (t' := s1.toks) fun b ob q => Heap.get?_push_of_some _ q
  refine PySem.W.kdl_call (PySem.W.kdl_values (knd := mixKind X.prog X.w) (kvs := vs) (ep := ep)) (I1.ok.hd hc) ⟨⟨_, Heap.get?_push_size _ rfl, rfl, rfl⟩, hat.push _⟩ (by omega) fun h' tk acc c hk hS hit => ?_
  refine ⟨.ref _, upd H1 _ (.lst (kvs.map (·.2))), I2.laid (t' := tk) hk (Nat.le_refl _) ⟨?_, acc.toList, c, ?_, ?_⟩, rfl, q _ (I2.hok.fresh (Nat.le_refl _))⟩
  · rw [List.length_map]; exact hz
  · refine vals_of_at ?_ fun j x u hx hu => ?_
    · rw [List.length_map]; exact lk.trans (hit.1.symm.trans (Array.length_toList (xs := acc)).symm)
    · rw [Array.getElem?_toList] at hu
      obtain ⟨k, hk2⟩ := hit.2 j u hu
      obtain ⟨y, h1, h2⟩ := KV.at' kv hk2
      rw [List.getElem?_map, h1] at hx
      cases hx
      exact h2
  · rw [Array.toArray_toList]; exact hS
def eVals (g : EM D) : EM D := fun l rw => (g l rw).bind fun p => match p.1 with
  | .dic ks xs => .ok (.lst xs, p.2)
  | _ => .stuck
theorem do_vals {g : EM D} (hc : X.calm = true) (h : DE X W e g) (hg : Gl X "list") (hm : X.mg "list" = none) (hbase : attributeBase e "values" X.env (eval e X.env) = eval e X.env := by rfl) (hline : (apos.endLine == cpos.line) = true := by rfl)
    (hs : starEach [.Call (.Attribute e "values" apos) [] [] cpos] X.env = (false, eval (.Call (.Attribute e "values" apos) [] [] cpos) X.env) :: starEach [] X.env := by rfl) :
    DO X W (.Call (.Name "list" p) [.Call (.Attribute e "values" apos) [] [] cpos] [] pos) (eVals g) := by
  refine pe_imp (pe_listVals hc h hg hm (hbase := hbase) (hline := hline) (hs := hs)) fun σ H Q hq => ?_
  obtain ⟨C, l, rw, G, S, hp⟩ := hq
  refine seqD (P := POq X.K W C l σ H G Q) S hp (fun _ _ z => z) (fun z => z) fun d rw1 v H1 G1 S1 s1 r1 h1 => ?_
  cases d with
  | dic ks xs =>
    unfold Rep at r1
    obtain ⟨a, od, kvs, vs, rfl, a1, a2, a3, rfl, a5⟩ := r1
    refine ⟨a, kvs, rfl, .inr ⟨od, S1.sub _ _ a1⟩, fun q hq => ?_⟩
    refine h1 q _ _ (S1.newO hq) (s1.trans (Gr.newO S1.sub hq)) ?_ (S1.ownNew hq ⟨_, rfl, by rw [List.length_map]; exact a2, a5⟩ rfl)
    cases z : H q with
    | none => rfl
    | some o => obtain ⟨o', z2⟩ := s1.t _ _ z; rw [hq] at z2; cases z2
  | _ => exact h1.elim
/-! ### dict(pairs) -/
def pairsD : List D → Option (List (Int × D))
  | [] => some []
  | .tup [.int k, x] :: r => (pairsD r).map ((k, x) :: ·)
  | _ => none
def mergeD : List Int → List D → List (Int × D) → List Int × List D
  | ks, xs, [] => (ks, xs)
  | ks, xs, p :: r => mergeD (putKs ks p.1) (putXs ks xs p.1 p.2) r
def fDictP : List D → Option D
  | [.lst ps] => (pairsD ps).map fun q => .dic (mergeD [] [] q).1 (mergeD [] [] q).2
  | _ => none
theorem merge_ok {K : PySem.W.Frag} {r : Option Addr} {G : Hp} : ∀ {ps : List (Int × D)} {kvs0 kvs : List (Key × V)} {ks : List Int} {xs : List D}, kvs0.map (·.1) = ks.map Sum.inl → Reps K r G xs (kvs0.map (·.2)) →
    kvs.map (·.1) = ps.map (fun p => Sum.inl p.1) → Reps K r G (ps.map (·.2)) (kvs.map (·.2)) → (mergeK kvs0 kvs).map (·.1) = (mergeD ks xs ps).1.map Sum.inl ∧ Reps K r G (mergeD ks xs ps).2 ((mergeK kvs0 kvs).map (·.2))
  | [], kvs0, kvs, ks, xs, h1, h2, h3, h4 => by
    have e : kvs = [] := by
      cases kvs with
      | nil => rfl
      | cons _ _ => simp at h3
    subst e
    exact ⟨h1, h2⟩
  | p :: ps, kvs0, kvs, ks, xs, h1, h2, h3, h4 => by
    cases kvs with
    | nil => simp at h3
    | cons q kvs =>
      rw [List.map_cons, List.map_cons] at h3
      injection h3 with h3 h3'
      rw [List.map_cons, List.map_cons] at h4
      unfold Reps at h4
      obtain ⟨v, t, e, r1, r2⟩ := h4
      injection e with e1 e2
      subst e1 e2
      obtain ⟨c1, c2⟩ := put_ok (k := p.1) r1 h1 h2
      show (mergeK (putK kvs0 q.1 q.2) kvs).map (·.1) = (mergeD (putKs ks p.1) (putXs ks xs p.1 p.2) ps).1.map Sum.inl ∧ Reps K r G (mergeD (putKs ks p.1) (putXs ks xs p.1 p.2) ps).2 ((mergeK (putK kvs0 q.1 q.2) kvs).map (·.2))
      rw [h3]
      exact merge_ok c1 c2 h3' r2
theorem pairs_ok {K : PySem.W.Frag} {r : Option Addr} {G H : Hp} (s : Same G H) : ∀ {ds : List D} {vs : List V} {ps : List (Int × D)}, pairsD ds = some ps → Reps K r G ds vs →
    ∃ (as : List Addr) (kvs : List (Key × V)), vs = as.map V.ref ∧ Paired (fun p kv => SqT K H p [kV kv.1, kv.2]) as kvs ∧ kvs.map (·.1) = ps.map (fun p => Sum.inl p.1) ∧ Reps K r G (ps.map (·.2)) (kvs.map (·.2))
  | [], vs, ps, h, q => by
    cases h
    unfold Reps at q
    subst q
    exact ⟨[], [], rfl, .nil, rfl, Reps.nil⟩
  | d :: ds, vs, ps, h, q => by
    unfold pairsD at h
    split at h
    case h_1 z => cases z
    case h_3 => cases h
    case h_2 k x rr z =>
      injection z with z1 z2
      subst z1 z2
      cases e : pairsD ds with
      | none => rw [e] at h; cases h
      | some qs =>
        rw [e] at h
        cases h
        unfold Reps at q
        obtain ⟨v, t, rfl, r1, r2⟩ := q
        obtain ⟨as, kvs, rfl, i1, i2, i3⟩ := pairs_ok s e r2
        unfold Rep at r1
        obtain ⟨a, us, rfl, a1, a2, a3⟩ := r1
        unfold Reps at a3
        obtain ⟨u1, t1, rfl, b1, b2⟩ := a3
        unfold Reps at b2
        obtain ⟨u2, t2, rfl, b3, b4⟩ := b2
        unfold Reps at b4
        subst b4
        unfold Rep at b1
        subst b1
        refine ⟨a :: as, (Sum.inl k, u2) :: kvs, rfl, .cons (Same.seqT s a1) i1, ?_, ?_⟩
        · rw [List.map_cons, List.map_cons, i2]
        · exact Reps.cons b3 i3
theorem length_pairsD : ∀ {ds : List D} {ps : List (Int × D)}, pairsD ds = some ps → ps.length = ds.length
  | [], ps, h => by cases h; rfl
  | d :: ds, ps, h => by
    unfold pairsD at h
    split at h
    case h_1 z => cases z
    case h_3 => cases h
    case h_2 k x rr z =>
      injection z with z1 z2
      subst z1 z2
      cases e : pairsD ds with
      | none => rw [e] at h; cases h
      | some qs => rw [e] at h; cases h; simp [length_pairsD e]
theorem a_dictP {K : PySem.W.Frag} : ArN K (fun xs H Q => ∃ (a : Addr) (ps : List Addr) (kvs : List (Key × V)), xs = [.ref a] ∧ SqL K H a (ps.map V.ref) ∧ Paired (fun p kv => SqT K H p [kV kv.1, kv.2]) ps kvs ∧
    ∀ p, H p = none → Q (.ref p) (upd H p (.dK (mergeK [] kvs)))) fDictP := by
  intro o G H ds vs d Q s r e
  unfold fDictP at e
  split at e
  case h_2 => cases e
  case h_1 ps =>
    cases e1 : pairsD ps with
    | none => rw [e1] at e; cases e
    | some qs =>
      rw [e1] at e
      cases e
      obtain ⟨v, rfl, r1⟩ := reps1 r
      unfold Rep at r1
      obtain ⟨a, us, rfl, a1, a2, a3⟩ := r1
      obtain ⟨as, kvs, rfl, i1, i2, i3⟩ := pairs_ok s e1 a3
      refine ⟨rfl, fun k => ⟨a, as, kvs, rfl, .of (s _ _ a1), i1, fun p hp => ?_⟩⟩
      obtain ⟨c1, c2⟩ := merge_ok (ks := []) (xs := []) (kvs0 := []) rfl Reps.nil i2 i3
      refine k p H _ (Same.refl _) hp ⟨_, _, rfl, ?_, c1, rfl, c2⟩
      have z := length_mergeK kvs []
      have z2 : kvs.length = as.length := (Paired.length i1).symm
      rw [List.length_map] at a2
      rw [List.length_nil, Nat.zero_add] at z
      omega
/-! ### max(d): the greatest key -/
def rMaxK : List V → Hp → VK → Prop := fun xs H Q => ∃ (a : Addr) (kvs : List (Key × V)) (ks : List Int), xs = [.ref a] ∧ Rd H a (.dK kvs) ∧ kvs.map (·.1) = ks.map Sum.inl ∧ ks ≠ [] ∧ ∀ m, m ∈ ks → (∀ y ∈ ks, y ≤ m) → Q (.int m) H
theorem cr_maxK (hc : X.calm = true) : CallR X (.builtin "max") rMaxK := by
  intro pins s σ H vs us Q I r h
  obtain ⟨a, kvs, ks, rfl, hd, hk, hne, q⟩ := h
  obtain rfl := Vals.ref1 r
  obtain ⟨hz, hs0, ws, kv, hdo⟩ := dk_rd I.hok hd
  obtain ⟨ep, hat⟩ := hdo.dictAt
  have lk : kvs.length = ws.length := Paired.length kv
  have lks : kvs.length = ks.length := by have := congrArg List.length hk; simpa using this
  have hpos : 0 < ks.length := List.length_pos_iff.mpr hne
  obtain ⟨oI, St, h1, W1, h3⟩ := (PySem.W.kdl_dict (knd := mixKind X.prog X.w) (kvs := ws) (ep := ep) (d := a) hs0).iter X.A.in1 s (I.ok.hd hc) hat
  have hval : ∀ (i : Nat) (v : Value), (∃ k x, ws[i]? = some (k, x) ∧ (mixKind X.prog X.w).is k v = true) → ∃ t, v = Value.int (ks.getD i 0) t := fun i v ⟨k, x, e1, e2⟩ => by
    have hi : i < ws.length := (List.getElem?_eq_some_iff.mp e1).1
    obtain ⟨p, hp⟩ : ∃ p, kvs[i]? = some p := ⟨_, List.getElem?_eq_getElem (by omega)⟩
    obtain ⟨u, e3, _⟩ := kv_get kv hp
    rw [e1] at e3
    have ek : p.1 = k := by cases e3; rfl
    have z : (kvs.map (·.1))[i]? = (ks.map Sum.inl)[i]? := by rw [hk]
    rw [List.getElem?_map, List.getElem?_map, hp] at z
    obtain ⟨j, hj⟩ : ∃ j, ks[i]? = some j := ⟨_, List.getElem?_eq_getElem (by omega)⟩
    rw [hj] at z
    have z : p.1 = Sum.inl j := Option.some.inj z
    rw [← ek, z] at e2
    obtain ⟨t, e4⟩ := (relV_key (show keyIs (Sum.inl j) v = true from e2) : RelV (kV (Sum.inl j)) v)
    refine ⟨t, ?_⟩
    rw [e4, List.getD_eq_getElem?_getD, hj]; rfl
  refine call_max_walk (h1 _ _ ?_)
  refine ⟨_, _, _, _, _, _, _, rfl, W1, h3, fun b hb => ?_, by omega, CmpOf.ints_gt (fun i => ks.getD i 0) hval, fun v h' tk hP hk2 => ?_⟩
  · show b < (s.heap.push oI).objs.size
    rw [Heap.size_push]
    rcases List.mem_cons.mp hb with rfl | hb
    · exact Nat.lt_succ_self _
    · obtain rfl : b = a := by simpa using hb
      exact Nat.lt_succ_of_lt hat.lt_size
  · obtain ⟨t, rfl⟩ := hval _ v hP
    have hb := argBest_gt (fun i => ks.getD i 0) (ws.length - 1)
    have hbl : argBest (fun i j => decide (ks.getD i 0 > ks.getD j 0)) (ws.length - 1) < ks.length := by have := hb.1; omega
    refine ⟨.int _, H, I.kept fun b o e => hk2 b o ?_ (Heap.get?_push_of_some _ e), ⟨t, rfl⟩, q _ ?_ fun y hy => ?_⟩
    · intro z
      have z : b = s.heap.objs.size := by simpa using z
      exact Nat.lt_irrefl _ (z ▸ Heap.lt_size e)
    · rw [List.getD_eq_getElem?_getD, List.getElem?_eq_getElem hbl]
      exact List.getElem_mem hbl
    · obtain ⟨j, hj, e⟩ := List.getElem_of_mem hy
      have z := hb.2 j (by omega)
      have e2 : ks.getD j 0 = y := by rw [List.getD_eq_getElem?_getD, List.getElem?_eq_getElem hj, ← e]; rfl
      rw [e2] at z
      exact z
def fMaxK : List D → Option D
  | [.dic (k :: ks) _] => some (.int (maxI 0 (k :: ks)))
  | _ => none
theorem a_maxK {K : PySem.W.Frag} : ArD K rMaxK fMaxK := by
  intro o G H ds vs d Q s r e q
  unfold fMaxK at e
  split at e
  case h_2 => cases e
  case h_1 k ks xs =>
    cases e
    obtain ⟨v, rfl, r1⟩ := reps1 r
    unfold Rep at r1
    obtain ⟨a, od, kvs, us, rfl, a1, a2, a3, rfl, a5⟩ := r1
    refine ⟨a, kvs, k :: ks, rfl, .inr ⟨od, s _ _ a1⟩, a3, by simp, fun m m1 m2 => ?_⟩
    have hm : m = maxI 0 (k :: ks) := maxI_eq (fun z => by cases z) fun _ => ⟨m1, m2⟩
    rw [hm]
    exact q _ H G (Same.refl _) (Gr.refl s) (by unfold Rep; rfl)
/-! ### x == [], [] not in x -/
def rEqNil (K : PySem.W.Frag) : R2 := fun x y H Q => ∃ a b xs, x = .ref a ∧ y = .ref b ∧ SqL K H a xs ∧ SqL K H b [] ∧ Q (.bl xs.isEmpty) H
theorem op_eqNil (hu : X.A.units + 64 < cLine) : OpR X (compareOp .Eq) (rEqNil X.K) := by
  intro pins s σ H x y v u Q I rx ry h
  obtain ⟨a, b, xs, rfl, rfl, ha, hb, q⟩ := h
  cases rx
  cases ry
  obtain ⟨us, r1, p1, _⟩ := I.list ha
  obtain ⟨ws, r2, p2, _⟩ := I.list hb
  have e2 : ws = [] := List.length_eq_zero_iff.mp (by have := r2.length; simpa using this.symm)
  subst e2
  cases xs with
  | nil =>
    have e1 : us = [] := List.length_eq_zero_iff.mp (by have := r1.length; simpa using this.symm)
    subst e1
    exact SeqAt.eq_listAt (e := fun _ => true) p1.isList p2.isList rfl (by omega) (fun j h1 _ => absurd h1 (by simp)) ⟨.bl true, H, I, rfl, q⟩
  | cons x xs =>
    have l1 := r1.length
    refine SeqAt.eq_list_lengthsAt p1.isList p2.isList ?_ (by omega) ⟨.bl false, H, I, rfl, q⟩
    rw [List.size_toArray, List.size_toArray, ← l1]
    simp
def fEqN (d e : D) : Option D := match d, e with
  | .lst xs, .lst [] => some (.bl xs.isEmpty)
  | _, _ => none
theorem c_eqN {K : PySem.W.Frag} : CmpD K (rEqNil K) fEqN := by
  intro o G H d1 d2 v1 v2 d Q s r1 r2 e q
  unfold fEqN at e
  split at e
  case h_2 => cases e
  case h_1 xs =>
    cases e
    unfold Rep at r1 r2
    obtain ⟨a, us, rfl, a1, a2, a3⟩ := r1
    obtain ⟨b, ws, rfl, b1, b2, b3⟩ := r2
    unfold Reps at b3
    subst b3
    have ex : us.isEmpty = xs.isEmpty := by
      have hl := a3.length
      cases us <;> cases xs <;> first | rfl | simp at hl
    exact ⟨a, b, us, rfl, rfl, .of (s _ _ a1), .of (s _ _ b1), q _ (by rw [ex]; unfold Rep; rfl)⟩
/-- an empty list's address -/
def isNilL (h : Heap) : Value → Bool
  | .ref c => (match h.get? c with
    | some ⟨.type "list", _, .seq its _, _⟩ => its.size == 0
    | _ => false)
  | _ => false
def rNotInNil (K : PySem.W.Frag) : R2 := fun x y H Q => ∃ (a b : Addr) (xs : List (Addr × List V)), x = .ref a ∧ y = .ref b ∧ SqL K H a [] ∧ SqL K H b (xs.map fun p => V.ref p.1) ∧ (∀ p ∈ xs, SqL K H p.1 p.2) ∧ Q (.bl (!xs.any fun p => p.2.isEmpty)) H
theorem op_notInNil (hu : X.A.units + 64 < cLine) : OpR X (compareOp .NotIn) (rNotInNil X.K) := by
  intro pins s σ H x y v u Q I rx ry h
  obtain ⟨a, b, xs, rfl, rfl, ha, hb, hx, q⟩ := h
  cases rx
  cases ry
  obtain ⟨us, r1, p1, _⟩ := I.list ha
  obtain ⟨ws, r2, p2, _⟩ := I.list hb
  have e1 : us = [] := List.length_eq_zero_iff.mp (by have := r1.length; simpa using this.symm)
  subst e1
  have key : ∀ p ∈ xs, ∃ its : List Value, s.heap.IsList p.1 its.toArray ∧ isNilL s.heap (.ref p.1) = p.2.isEmpty ∧ its.length = p.2.length := fun p hp => by
    obtain ⟨its, r3, p3, _⟩ := I.list (hx p hp)
    refine ⟨its, p3.isList, ?_, r3.length.symm⟩
    obtain ⟨o, n, e, c, hd, hdat⟩ := p3
    obtain ⟨cls, dd, dat, sl⟩ := o
    simp only at c hdat
    subst c hdat
    unfold isNilL
    dsimp only
    rw [e]
    show (its.toArray.size == 0) = p.2.isEmpty
    rw [List.size_toArray, ← r3.length]
    cases p.2 <;> rfl
  have wsr : ∀ (ys : List (Addr × List V)) (ws : List Value), Vals (ys.map fun p => V.ref p.1) ws → ws = ys.map fun p => Value.ref p.1 := by
    intro ys
    induction ys with
    | nil => intro ws r; cases r; rfl
    | cons y ys ih =>
      intro ws r
      cases r with
      | cons h t =>
        cases h
        rw [ih _ t]; rfl
  have ew := wsr xs ws r2
  have anyE : ∀ ys : List (Addr × List V), (∀ p ∈ ys, isNilL s.heap (.ref p.1) = p.2.isEmpty) → (ys.map fun p => Value.ref p.1).any (isNilL s.heap) = ys.any fun p => p.2.isEmpty := by
    intro ys
    induction ys with
    | nil => intro _; rfl
    | cons y ys ih =>
      intro h
      rw [List.map_cons, List.any_cons, List.any_cons, h y List.mem_cons_self, ih fun p hp => h p (List.mem_cons_of_mem _ hp)]
  refine SeqAt.notIn_listAt (isNilL s.heap) p2.isList (fun z hz => ?_) ⟨.bl (!xs.any fun p => p.2.isEmpty), H, I, ?_, q⟩
  · rw [ew] at hz
    have hz : z ∈ xs.map fun p => Value.ref p.1 := by simpa using hz
    obtain ⟨p, hp, rfl⟩ := List.mem_map.mp hz
    obtain ⟨its, k1, k2, k3⟩ := key p hp
    by_cases hne : p.1 = a
    · have e3 : isNilL s.heap (.ref p.1) = true := by
        rw [k2]
        have : its = [] := by
          have z := k1
          rw [hne] at z
          have := p1.isList
          obtain ⟨o1, ho1, _, n1, hd1⟩ := z
          obtain ⟨o2, ho2, _, n2, hd2⟩ := this
          rw [ho1] at ho2
          cases ho2
          rw [hd1] at hd2
          have z3 : its.toArray = ([] : List Value).toArray := by injection hd2
          simpa using z3
        rw [this] at k3
        cases h : p.2 with
        | nil => rfl
        | cons _ _ => rw [h] at k3; simp at k3
      rw [e3, hne]
      exact SeqAt.EqAt.same _
    · refine SeqAt.EqAt.of_refs hne ?_
      rw [k2]
      cases h : p.2 with
      | nil =>
        rw [h] at k3
        have e4 : its = [] := List.length_eq_zero_iff.mp k3
        subst e4
        exact SeqAt.RcAt.lists (e := fun _ => true) k1 p1.isList rfl (by show X.A.units + 1 < cLine; omega) fun j h1 _ => absurd h1 (by simp)
      | cons _ _ =>
        rw [h] at k3
        exact SeqAt.RcAt.lists_lengths k1 p1.isList (by rw [List.size_toArray, List.size_toArray, k3]; simp) (by show X.A.units + 1 < cLine; omega)
  · show _ = Value.bool _
    rw [ew, ← anyE xs fun p hp => let ⟨_, _, z, _⟩ := key p hp; z]
    simp
end
end HD
end
section
/-! The data layer: more that stands in the program: [] not in x, list(range(..)), xs[i] = v, xs.pop(), x not in range(..). -/
namespace HD
open PySem PySem.Spec L2
open PyProof.Rows hiding St
def isLstD : D → Bool
  | .lst _ => true
  | _ => false
def isNilD : D → Bool
  | .lst [] => true
  | _ => false
def fNotInN (d e : D) : Option D := match d, e with
  | .lst [], .lst ys => if ys.all isLstD = true then some (.bl (!ys.any isNilD)) else none
  | _, _ => none
theorem lists_of {K : PySem.W.Frag} {o : Option Addr} {G H : Hp} (s : Same G H) : ∀ {ys : List D} {vs : List V}, ys.all isLstD = true → Reps K o G ys vs →
    ∃ xs : List (Addr × List V), vs = xs.map (fun p => V.ref p.1) ∧ (∀ p ∈ xs, SqL K H p.1 p.2) ∧ (xs.any fun p => p.2.isEmpty) = ys.any isNilD
  | [], vs, _, r => by
    unfold Reps at r
    subst r
    exact ⟨[], rfl, fun p hp => absurd hp (by simp), rfl⟩
  | y :: ys, vs, h, r => by
    unfold Reps at r
    obtain ⟨v, t, rfl, r1, r2⟩ := r
    have h' : isLstD y = true ∧ ys.all isLstD = true := by simpa using h
    obtain ⟨xs, rfl, i2, i3⟩ := lists_of s h'.2 r2
    cases y with
    | lst zs =>
      unfold Rep at r1
      obtain ⟨a, us, rfl, a1, a2, a3⟩ := r1
      refine ⟨(a, us) :: xs, rfl, fun p hp => ?_, ?_⟩
      · rcases List.mem_cons.mp hp with rfl | hp
        · exact .of (s _ _ a1)
        · exact i2 p hp
      · rw [List.any_cons, List.any_cons, i3]
        congr 1
        have hl := a3.length
        cases zs <;> cases us <;> first | rfl | simp at hl
    | _ => cases h'.1
theorem c_notInN {K : PySem.W.Frag} : CmpD K (rNotInNil K) fNotInN := by
  intro o G H d1 d2 v1 v2 d Q s r1 r2 e q
  unfold fNotInN at e
  split at e
  case h_2 => cases e
  case h_1 ys =>
    split at e
    case isFalse => cases e
    case isTrue h =>
      cases e
      unfold Rep at r1 r2
      obtain ⟨a, us, rfl, a1, a2, a3⟩ := r1
      unfold Reps at a3
      subst a3
      obtain ⟨b, ws, rfl, b1, b2, b3⟩ := r2
      obtain ⟨xs, rfl, i2, i3⟩ := lists_of s h b3
      exact ⟨a, b, xs, rfl, rfl, .of (s _ _ a1), .of (s _ _ b1), i2, q _ (by rw [i3]; unfold Rep; rfl)⟩
/-! ### list(range(..)) -/
section
variable {X : Cx} {W : WD} {own : Bool}
def eLRg1 (g : EM D) : EM D := fun l rw => (g l rw).bind fun p => match p.1 with
  | .int n => if -1000000 ≤ n ∧ n ≤ 1000000 then .ok (.lst (rangeD 0 n.toNat), p.2) else .stuck
  | _ => .stuck
def eLRg2 (g1 g2 : EM D) : EM D := fun l rw => (g1 l rw).bind fun p => (g2 l p.2).bind fun q => match p.1, q.1 with
  | .int i, .int n => if (-1000000 ≤ i ∧ i ≤ 1000000) ∧ -1000000 ≤ n ∧ n ≤ 1000000 then .ok (.lst (rangeD i (n - i).toNat), q.2) else .stuck
  | _, _ => .stuck
theorem rgV_ints (a b : Int) : ∃ ns : List Int, rgV a b = ns.map V.int ∧ rangeD a (b - a).toNat = ns.map D.int := by
  refine ⟨(List.range (b - a).toNat).map fun i => a + (i : Nat), ?_, ?_⟩
  · unfold rgV; rw [List.map_map]; rfl
  · unfold rangeD; rw [List.map_map]; rfl
theorem rgOk_of {a b : Int} (ha : -1000000 ≤ a ∧ a ≤ 1000000) (hb : -1000000 ≤ b ∧ b ≤ 1000000) : RgOk a b := ⟨(small62 ha).1, (small62 ha).2, (small62 hb).1, (small62 hb).2, by omega⟩
theorem own_rg {K : PySem.W.Frag} {C : C0} {l : Dl} {rw1 : Rw} {σ : St} {H G H1 G1 : Hp} {Q : VK} {a b : Int} (ha : -1000000 ≤ a ∧ a ≤ 1000000) (hb : -1000000 ≤ b ∧ b ≤ 1000000) (S1 : SR K C l rw1 σ H1 G1) (s1 : Gr K C.r H G H1 G1)
    (h1 : POq K W C l σ H G Q (.ok (.lst (rangeD a (b - a).toNat), rw1))) : ∀ q, H1 q = none → Q (.ref q) (upd H1 q (.lst (rgV a b))) := by
  intro q hq
  obtain ⟨ns, e1, e2⟩ := rgV_ints a b
  have hl : (rgV a b).length ≤ sizeLine := by rw [rgV_length, sizeLine_eq]; omega
  refine h1 q _ _ (S1.newO hq) (s1.trans (Gr.newO S1.sub hq)) ?_ (S1.ownNew hq ⟨_, rfl, hl, ?_⟩ rfl)
  · cases z : H q with
    | none => rfl
    | some o => obtain ⟨o', z2⟩ := s1.t _ _ z; rw [hq] at z2; cases z2
  · rw [e1, e2]; exact Reps.of_ints ns
theorem do_lrg1 {a : Expr} {p pos : Pos} {p2 pos2 : Pos} {g : EM D} (hc : X.calm = true) (hg : Gl X "list") (hm : X.mg "list" = none) (hg2 : Gl X "range") (hm2 : X.mg "range" = none) (ha : DE X W a g)
    (na2 : starEach [a] X.env = (false, eval a X.env) :: starEach [] X.env := by rfl)
    (na : starEach [.Call (.Name "range" p2) [a] [] pos2] X.env = (false, eval (.Call (.Name "range" p2) [a] [] pos2) X.env) :: starEach [] X.env := by rfl) :
    DO X W (.Call (.Name "list" p) [.Call (.Name "range" p2) [a] [] pos2] [] pos) (eLRg1 g) := by
  refine pe_imp (pe_listRg hc hg hm (prg_1 hg2 hm2 ha na2) na) fun σ H Q hq => ?_
  obtain ⟨C, l, rw, G, S, hp⟩ := hq
  refine seqD (P := POq X.K W C l σ H G Q) S hp (fun _ _ z => z) (fun z => z) fun d rw1 v H1 G1 S1 s1 r1 h1 => ?_
  dsimp only [POq] at h1
  cases d with
  | int n =>
    dsimp only at h1
    by_cases hn : -1000000 ≤ n ∧ n ≤ 1000000
    case neg => rw [if_neg hn] at h1; exact h1.elim
    rw [if_pos hn] at h1
    unfold Rep at r1
    have h0 : (-1000000 : Int) ≤ 0 ∧ (0 : Int) ≤ 1000000 := by decide
    have en : n.toNat = (n - 0).toNat := by rw [Int.sub_zero]
    rw [en] at h1
    exact ⟨n, r1, rgOk_of h0 hn, own_rg h0 hn S1 s1 h1⟩
  | _ => exact h1.elim
theorem do_lrg2 {a b : Expr} {p pos : Pos} {p2 pos2 : Pos} {g1 g2 : EM D} (hc : X.calm = true) (hg : Gl X "list") (hm : X.mg "list" = none) (hg2 : Gl X "range") (hm2 : X.mg "range" = none) (ha : DE X W a g1) (hb : DE X W b g2)
    (na2 : starEach [a, b] X.env = (false, eval a X.env) :: starEach [b] X.env := by rfl) (nb2 : starEach [b] X.env = (false, eval b X.env) :: starEach [] X.env := by rfl) (hpl : (backTo pos2 (starEach [b] X.env)).any (·.1) = false := by rfl)
    (na : starEach [.Call (.Name "range" p2) [a, b] [] pos2] X.env = (false, eval (.Call (.Name "range" p2) [a, b] [] pos2) X.env) :: starEach [] X.env := by rfl) :
    DO X W (.Call (.Name "list" p) [.Call (.Name "range" p2) [a, b] [] pos2] [] pos) (eLRg2 g1 g2) := by
  refine pe_imp (pe_listRg hc hg hm (prg_2 hg2 hm2 ha hb na2 nb2 hpl) na) fun σ H Q hq => ?_
  obtain ⟨C, l, rw, G, S, hp⟩ := hq
  refine seqD (P := POq X.K W C l σ H G Q) S hp (fun _ _ z => z) (fun z => z) fun d rw1 v H1 G1 S1 s1 r1 h1 => ?_
  refine seqD (P := POq X.K W C l σ H G Q) S1 h1 (fun _ _ z => z) (fun z => z) fun d2 rw2 v2 H2 G2 S2 s2 r2 h2 => ?_
  dsimp only [POq] at h2
  cases d with
  | int i =>
    cases d2 with
    | int n =>
      dsimp only at h2
      by_cases hn : (-1000000 ≤ i ∧ i ≤ 1000000) ∧ -1000000 ≤ n ∧ n ≤ 1000000
      case neg => rw [if_neg hn] at h2; exact h2.elim
      rw [if_pos hn] at h2
      unfold Rep at r1 r2
      exact ⟨i, n, r1, r2, rgOk_of hn.1 hn.2, own_rg hn.1 hn.2 S2 (s1.trans s2) h2⟩
    | _ => exact h2.elim
  | _ => cases d2 <;> exact h2.elim
/-! ### own[i] = v, own.pop() -/
def sStore (i : Nat) (gk gv : EM D) : SM := fun l rw => match l[i]? with
  | some (.own (.lst ds)) => (gv l rw).bind fun p => (gk l p.2).bind fun q => (match q.1 with
    | .int k => (match ixN ds.length k with
      | some j => .ok (.next, l.set i (.own (.lst (ds.set j p.1))), q.2)
      | none => .stuck)
    | _ => .stuck)
  | _ => .stuck
theorem ds_store {i : Nat} {st : Stmt} {gk gv : EM D} (h : PS X st (tAsg (tD X.K W gv) (gSub (tVar i) (tD X.K W gk) rSetL))) : DS X W own st (sStore i gk gv) := by
  refine ps_imp h fun E σ H hq => ?_
  obtain ⟨C, l, rw, G, S, hp⟩ := hq
  unfold sStore at hp
  split at hp
  case h_2 => exact hp.elim
  case h_1 ds e0 =>
    refine seqD (P := PSq X.K W own C E) S hp (fun x w z H' G' S' => z l σ H' G' S') (fun z => z) fun d1 rw1 v1 H1 G1 S1 s1 r1 h1 => ?_
    obtain ⟨p, e1, _⟩ := S1.ownAt e0
    refine ⟨.ref p, e1, ?_⟩
    refine seqD (P := PSq X.K W own C E) S1 h1 (fun x w z H' G' S' => z l σ H' G' S') (fun z => z) fun d2 rw2 v2 H2 G2 S2 s2 r2 h2 => ?_
    dsimp only [PSq] at h2
    cases d2 with
    | int k =>
      dsimp only at h2
      cases ej : ixN ds.length k with
      | none => rw [ej] at h2; exact h2.elim
      | some j =>
        rw [ej] at h2
        unfold Rep at r2
        subst r2
        obtain ⟨p', e1', ow⟩ := S2.ownAt e0
        rw [e1] at e1'; cases e1'
        obtain ⟨q, eq, hg, h0, hr, vs, b1, b2, b3⟩ := ow
        cases eq
        refine ⟨p, vs, k, j, rfl, rfl, b1, by rw [← b3.length]; exact ej, ?_⟩
        exact h2 σ _ G2 (S2.mutAt e0 e1 rfl ⟨_, rfl, by rw [List.length_set]; exact b2, b3.set j (r1.mono s2.g)⟩)
    | _ => exact h2.elim
/-- target = own.pop() -/
def sPopG (i : Nat) (tg : D → Dl → Option Dl) : SM := fun l rw => match l[i]? with
  | some (.own (.lst ds)) => (match ds.getLast? with
    | some d => (match tg d (l.set i (.own (.lst ds.dropLast))) with
      | some l' => .ok (.next, l', rw)
      | none => .stuck)
    | none => .stuck)
  | _ => .stuck
theorem Reps.dropLast {K : PySem.W.Frag} {r : Option Addr} {G : Hp} {ds : List D} {vs : List V} (h : Reps K r G ds vs) : Reps K r G ds.dropLast vs.dropLast := by
  rw [List.dropLast_eq_take, List.dropLast_eq_take, h.length]
  exact h.take _
theorem ds_popG {i : Nat} {tgt e : Expr} {pos : Pos} {js : List Nat} {tg : D → Dl → Option Dl} (hst : PS X (.Assign [tgt] e pos) (tAsg (tBM0 X.K "list" rPop (tVar i)) (tG X.K js tg))) : DS X W own (.Assign [tgt] e pos) (sPopG i tg) := by
  refine ps_imp hst fun E σ H hq => ?_
  obtain ⟨C, l, rw, G, S, hp⟩ := hq
  unfold sPopG at hp
  split at hp
  case h_2 => exact hp.elim
  case h_1 ds e0 =>
    obtain ⟨p, e1, ow⟩ := S.ownAt e0
    obtain ⟨q, eq, hg, h0, hr, vs, b1, b2, b3⟩ := ow
    cases eq
    cases e2 : ds.getLast? with
    | none => rw [e2] at hp; exact hp.elim
    | some d =>
      rw [e2] at hp
      dsimp only at hp
      cases e3 : tg d (l.set i (.own (.lst ds.dropLast))) with
      | none => rw [e3] at hp; exact hp.elim
      | some l' =>
        rw [e3] at hp
        rw [List.getLast?_eq_getElem?] at e2
        obtain ⟨v, e4, rv⟩ := b3.get e2
        rw [b3.length] at e4
        refine ⟨.ref p, e1, .inl ⟨rfl, _, .of b1⟩, p, vs, v, rfl, rfl, b1, e4, ?_⟩
        have S2 := S.mutAt (o' := .lst vs.dropLast) e0 e1 (d' := .lst ds.dropLast) rfl ⟨_, rfl, by rw [List.length_dropLast]; omega, b3.dropLast⟩
        exact ⟨C, _, rw, G, d, l', S2, rv, e3, fun σ' S' _ => hp σ' _ G S'⟩
/-! ### x not in range(a, b) -/
def eNotRg (gx g1 g2 : EM D) : EM D := fun l rw => (gx l rw).bind fun p => (g1 l p.2).bind fun q => (g2 l q.2).bind fun t => match p.1, q.1, t.1 with
  | .int x, .int a, .int b => .ok (.bl (!decide (a ≤ x ∧ x < b)), t.2)
  | _, _, _ => .stuck
theorem op_notIn_rng : OpR X (compareOp .NotIn) (fun x y H Q => ∃ i a lo hi, x = V.int i ∧ y = V.ref a ∧ H a = some (.rng lo hi) ∧ Q (.bl (!decide (lo ≤ i ∧ i < hi))) H) := by
  intro pins s σ H x y v u Q I rx ry h
  obtain ⟨i, a, lo, hi, rfl, rfl, ha, q⟩ := h
  obtain ⟨k, rfl⟩ := rx
  obtain rfl : u = Value.ref a := ry
  obtain ⟨t1, t2, t3, ho⟩ := I.hok a _ ha
  show wpAny _ _ (do return Value.bool (!(← contains (Value.ref a) (Value.int i k)))) _ _ s
  have T : s.TypeIs (Value.ref a) "range" := ⟨_, ho, rfl⟩
  refine wpAny_bind (wpAny_contains_slot T PySem.F.slot_range_contains (call_meets PySem.F.slot_range_contains T PySem.F.entry_range_contains (PySem.F.args_range_contains_2 _ _) (q_contains a lo hi i t1 t2 t3 k)
    ⟨ho, wpAny_truthy_bool (wpAny_pure ⟨.bl _, H, I, rfl, ?_⟩)⟩))
  rw [place1]
  exact q
def tNotRg (K : PySem.W.Frag) (W : WD) (gx g1 g2 : EM D) : TE := tOp (fun x y H Q => ∃ i a lo hi, x = V.int i ∧ y = V.ref a ∧ H a = some (.rng lo hi) ∧ Q (.bl (!decide (lo ≤ i ∧ i < hi))) H) (tD K W gx) (fun σ H Q => tCons (tD K W g1) (tCons (tD K W g2) tNil) σ H fun vs H2 => (fun vs H Q => ∃ i j, vs = [V.int i, V.int j] ∧ ∀ p, H p = none → Q (.ref p) (upd H p (.rng i j))) vs H2 Q)
theorem redNotRg {gx g1 g2 : EM D} : ∀ σ H Q, tD X.K W (eNotRg gx g1 g2) σ H Q → tNotRg X.K W gx g1 g2 σ H Q := by
  intro σ H Q hq
  obtain ⟨C, l, rw, G, S, hp⟩ := hq
  refine seqD (P := PEq X.K W C l σ H G Q) S hp (fun _ _ z => z) (fun z => z) fun d rw1 v H1 G1 S1 s1 r1 h1 => ?_
  refine seqD (P := PEq X.K W C l σ H G Q) S1 h1 (fun _ _ z => z) (fun z => z) fun d2 rw2 v2 H2 G2 S2 s2 r2 h2 => ?_
  refine seqD (P := PEq X.K W C l σ H G Q) S2 h2 (fun _ _ z => z) (fun z => z) fun d3 rw3 v3 H3 G3 S3 s3 r3 h3 => ?_
  dsimp only [PEq] at h3
  cases d with
  | int i =>
    cases d2 with
    | int lo =>
      cases d3 with
      | int hi =>
        unfold Rep at r1 r2 r3
        subst r1 r2 r3
        refine ⟨lo, hi, rfl, fun p hp0 => ⟨i, p, lo, hi, rfl, rfl, upd_same, ?_⟩⟩
        exact h3 _ _ G3 (S3.newO hp0) (((s1.trans s2).trans s3).trans (Gr.newO S3.sub hp0)) (by unfold Rep; rfl)
      | _ => exact h3.elim
    | _ => cases d3 <;> exact h3.elim
  | _ => cases d2 <;> cases d3 <;> exact h3.elim
theorem de_notRg {x a b : Expr} {p2 pos2 pos : Pos} {gx g1 g2 : EM D} (hg2 : Gl X "range") (hm2 : X.mg "range" = none) (hx : DE X W x gx) (ha : DE X W a g1) (hb : DE X W b g2)
    (na2 : starEach [a, b] X.env = (false, eval a X.env) :: starEach [b] X.env := by rfl) (nb2 : starEach [b] X.env = (false, eval b X.env) :: starEach [] X.env := by rfl) (hpl : (backTo pos2 (starEach [b] X.env)).any (·.1) = false := by rfl)
    (hm : behindInMarks .NotIn (.Call (.Name "range" p2) [a, b] [] pos2) = false := by rfl) :
    DE X W (.Compare x [.NotIn] [.Call (.Name "range" p2) [a, b] [] pos2] pos) (eNotRg gx g1 g2) := by
  exact pe_imp (pe_cmpR op_notIn_rng hx (pe_callTy cr_range2 hg2 hm2 (by decide +kernel) (pa_cons ha (pa_cons hb pa_nil nb2) na2) (he := na2) (hpl := hpl)) hm) redNotRg
theorem dt_notRg {x a b : Expr} {p2 pos2 pos : Pos} {gx g1 g2 : EM D} (hg2 : Gl X "range") (hm2 : X.mg "range" = none) (hx : DE X W x gx) (ha : DE X W a g1) (hb : DE X W b g2)
    (na2 : starEach [a, b] X.env = (false, eval a X.env) :: starEach [b] X.env := by rfl) (nb2 : starEach [b] X.env = (false, eval b X.env) :: starEach [] X.env := by rfl) (hpl : (backTo pos2 (starEach [b] X.env)).any (·.1) = false := by rfl)
    (hm : behindInMarks .NotIn (.Call (.Name "range" p2) [a, b] [] pos2) = false := by rfl) :
    DT X W (.Compare x [.NotIn] [.Call (.Name "range" p2) [a, b] [] pos2] pos) (toB (eNotRg gx g1 g2)) := by
  exact pt_imp (pt_cmpR op_notIn_rng hx (pe_callTy cr_range2 hg2 hm2 (by decide +kernel) (pa_cons ha (pa_cons hb pa_nil nb2) na2) (he := na2) (hpl := hpl)) hm) fun σ H Q hq => redNotRg _ _ _ (redB σ H Q hq)
end
end HD
end
section
/-! The data layer: sorted(xs, key=lambda one: ..). -/
namespace HD
open PySem PySem.Spec L2
open PyProof.Rows hiding St
section
variable {X : Cx} {pins : List (Addr × Obj)} {σ : L2.St} {H : Hp} {s : Shared}
/-- a lambda is made: all but the tables stays, the tables stay good -/
theorem lam_mk {c P : Addr} {params : Arguments} {body : Expr} {scope : Scope} {pos : Pos} {E : Value → Shared → Prop} {Q : Value → Shared → Prop} (I : Inv X pins σ H s) (TB : LamX.TabB X.base X.mg c P) (hcode : X.env.code = .ref c)
    (hm : (P, X.env.qual ++ ("<lambda>" : Str)) ∈ tabT X.K) (hu : ∀ p ∈ tabT X.K, p.1 = P → p.2 = X.env.qual ++ ("<lambda>" : Str)) (hT : LamX.Tabs (tabT X.K) H) (hdef : defaultsOf params X.env = ([], [])) (hfree : ∀ y ∈ scope.names, y.2 = .free → ∃ c, X.env.cells.lookup y.1 = some c)
    (h : ∀ (f c' : Addr) (pm ctv : Value) (H1 : Hp) (s' : Shared), Inv X pins σ H1 s' → (∀ a o, H a = some o → nTb o → H1 a = some o) → (∀ a o, H a = some o → ∃ o', H1 a = some o') → LamX.Tabs (tabT X.K) H1 →
      s'.heap.get? f = some (PySem.W.kla_obj "<lambda>" (X.env.qual ++ ("<lambda>" : Str)) params body scope (cloFrom X.env.cells scope.names []) pm c' ctv) → H1 f = none → f ∉ frs X.stack → H1 c' = some (LamX.CodeO c' (X.env.qual ++ ("<lambda>" : Str))) → Q (.ref f) s') :
    wpAny (model X.prog X.w) X.A (eval (.Lambda params body scope pos) X.env) Q E s := by
  obtain ⟨ps, hP, ht, ha⟩ := hT _ hm
  have hP' : s.heap.get? P = some { cls := .none, data := .fields ps } := I.hok P _ hP
  have bP := TB.bm.keeps I.bk
  have away : ∀ f, s.heap.objs.size ≤ f → f ∉ frs X.stack := fun f hf z => by
    rcases List.mem_cons.mp (I.stkSub _ z) with e | e
    · rw [e] at hf
      exact absurd I.lt (Nat.not_lt.mpr hf)
    · exact I.nofs hf e
  refine PySem.W.kla_eval hdef ?_
  cases hc : codeAmong pos ps.toList with
  | some cv =>
    obtain ⟨c', e, hco⟩ := ha pos cv hc
    subst e
    refine PySem.W.kla_makeFunctionHit (mg := X.mg) (c := c) (P := P) (ps := ps) (closure_ok hfree) I.ok.glob (I.mod.glob.keeps I.bk) hcode (TB.code.keeps I.bk) hP' ht hc bP fun ctv h' tk hx hsz => ?_
    exact h _ c' _ ctv H _ (I.kept (t' := tk) fun b o e => Heap.get?_push_of_some _ (hx b o e)) (fun _ _ e _ => e) (fun a o e => ⟨o, e⟩) hT (Heap.get?_push_size _ rfl) (I.hok.fresh hsz) (away _ hsz) hco
  | none =>
    refine PySem.W.kla_makeFunction (mg := X.mg) (c := c) (P := P) (ps := ps) (closure_ok hfree) I.ok.glob (I.mod.glob.keeps I.bk) hcode (TB.code.keeps I.bk) hP' ht hc TB.gP bP fun c' ctv h' tk hx hge hlt hrec htb => ?_
    obtain ⟨c2, oc, vs, t, e2, hoc, hd, hv⟩ := hrec
    cases e2
    have hsz : s.heap.objs.size ≤ h'.objs.size := Nat.le_trans hge (Nat.le_of_lt hlt)
    have nC : H c' = none := I.hok.fresh hge
    have cP : c' ≠ P := fun z => by rw [z, hP] at nC; cases nC
    have I1 := LamX.inv_table (q := X.env.qual ++ ("<lambda>" : Str)) (t' := tk) (more := #[rawInt pos.line, rawInt pos.col, .ref c']) (h' := h'.push (PySem.W.kla_obj "<lambda>" (X.env.qual ++ ("<lambda>" : Str)) params body scope (cloFrom X.env.cells scope.names []) ((X.mg "__name__").getD .none) c' ctv)) I hP
      (fun b o hb e => Heap.get?_push_of_some _ (hx b o hb e)) (Heap.get?_push_of_some _ htb) hge ⟨oc, vs, t, Heap.get?_push_of_some _ hoc, hd, hv⟩
    have st : ∀ a o, H a = some o → nTb o → (upd (upd H P (.tbl (ps ++ #[rawInt pos.line, rawInt pos.col, .ref c']))) c' (LamX.CodeO c' (X.env.qual ++ ("<lambda>" : Str)))) a = some o := fun a o e n => by
      rw [upd_ne (ne_of_none e nC), upd_ne (fun z => n ps (by rw [z, hP] at e; exact (Option.some.inj e).symm))]
      exact e
    refine h _ c' _ ctv _ _ I1 st (fun a o e => ?_) (fun p hp => ?_) (Heap.get?_push_size _ rfl) ?_ (away _ hsz) upd_same
    · by_cases z : a = P
      · rw [z]; exact ⟨_, by rw [upd_ne (Ne.symm cP), upd_same]⟩
      · exact ⟨o, by rw [upd_ne (ne_of_none e nC), upd_ne z]; exact e⟩
    · have keepC : ∀ cv, (∃ c0, cv = Value.ref c0 ∧ H c0 = some (LamX.CodeO c0 p.2)) → ∃ c0, cv = Value.ref c0 ∧ (upd (upd H P (.tbl (ps ++ #[rawInt pos.line, rawInt pos.col, .ref c']))) c' (LamX.CodeO c' (X.env.qual ++ ("<lambda>" : Str)))) c0 = some (LamX.CodeO c0 p.2) := fun cv ⟨c0, e1, e2⟩ => ⟨c0, e1, st _ _ e2 fun _ => LamX.codeO_ne _⟩
      by_cases hb : p.1 = P
      · rw [hb]
        refine ⟨_, by rw [upd_ne (Ne.symm cP), upd_same], ?_, fun p' cv hcv => ?_⟩
        · rw [Array.toList_append]; exact PySem.TriplesOk_snoc _ _ _ _ ht
        · rw [Array.toList_append] at hcv
          rcases LamX.among_app _ ht hcv with z | z
          · exact keepC cv (by rw [hu p hp hb]; exact ha p' cv z)
          · exact ⟨c', z, by rw [hu p hp hb]; exact upd_same⟩
      · obtain ⟨ps', a1, a2, a3⟩ := hT p hp
        exact ⟨ps', by rw [upd_ne (ne_of_none a1 nC), upd_ne hb]; exact a1, a2, fun p' cv hcv => keepC cv (a3 p' cv hcv)⟩
    · rw [upd_ne (Nat.ne_of_gt hlt), upd_ne (fun z => by rw [z] at hsz; exact absurd (Heap.lt_size hP') (Nat.not_lt.mpr hsz))]
      exact I.hok.fresh hsz
/-- the names of a lambda of one parameter x, nothing captured -/
structure KScope (scope : Scope) (x : Str) : Prop where
  kind : scope.kind = .function
  co : scope.isCoroutine = false
  gen : scope.isGenerator = false
  cell : ∀ y ∈ scope.names, y.2 ≠ .cell
  free : ∀ y ∈ scope.names, y.2 ≠ .free
  loc : scope.names.lookup x = some .local
theorem KScope.clo {scope : Scope} {x : Str} (L : KScope scope x) (cells : List (Str × Addr)) : cloFrom cells scope.names [] = [] := by
  have : ∀ (ns : List (Str × NameKind)), (∀ y ∈ ns, y.2 ≠ .free) → cloFrom cells ns [] = [] := by
    intro ns
    induction ns with
    | nil => intro _; rfl
    | cons y ys ih =>
      intro h
      obtain ⟨a, k⟩ := y
      have h1 := h (a, k) List.mem_cons_self
      have h2 := ih fun z hz => h z (List.mem_cons_of_mem _ hz)
      cases k <;> first | exact absurd rfl h1 | exact h2
  exact this _ L.free
abbrev kEnv (X : Cx) (scope : Scope) (L f c' : Addr) : Env := PySem.W.envX (X.env.qual ++ ("<lambda>" : Str)) scope L f (.ref c') []
/-- what a key lambda's body tells of a value -/
def KeyBody (X : Cx) (body : Expr) (scope : Scope) (x : Str) (h : Heap) (v : Value) (k : PyData) : Prop :=
  ∀ (A : Around) (L f c' : Addr) (s2 : Shared), s2.heap.Ns L (fun y => ([(x, v)] : List (Str × Value)).reverse.lookup y) → (∀ b o, h.get? b = some o → s2.heap.get? b = some o) → A.units < cLine →
    wpAny (model X.prog X.w) A (eval body (kEnv X scope L f c')) (fun u s3 => ∃ h' tk', s3 = { s2 with heap := h', toks := tk' } ∧ (∀ b o, s2.heap.get? b = some o → h'.get? b = some o) ∧ PySem.Reads h' u k []) (fun _ _ => False) s2
theorem key_run {A : Around} {f c' : Addr} {params : Arguments} {body : Expr} {scope : Scope} {x : Str} {pm ctv : Value} {v : Value} {k : PyData} {h : Heap} {tk : Nat} (lim : s.heap.NoLimit) (hf : s.heap.get? f = some (PySem.W.kla_obj "<lambda>" (X.env.qual ++ ("<lambda>" : Str)) params body scope [] pm c' ctv))
    (hcd : s.heap.CodeRec (.ref c') (X.env.qual ++ ("<lambda>" : Str))) (L : KScope scope x) (hbind : ∀ (q : Str) (pm cv ctv u : Value), bindArgs (PySem.W.kla_fn "<lambda>" q params body scope [] pm cv ctv) ⟨[u], []⟩ = pure [(x, u)])
    (hk : ∀ b o, s.heap.get? b = some o → h.get? b = some o) (hA : A.depth < recursionLimit) (hu : A.units + 3 < cLine) (hb : KeyBody X body scope x s.heap v k) :
    wpAny (model X.prog X.w) A (call (.ref f) [v]) (PySem.W.KeyPure k { s with heap := h, toks := tk }) (fun _ _ => False) { s with heap := h, toks := tk } := by
  have hcd' : h.CodeRec (.ref c') (X.env.qual ++ ("<lambda>" : Str)) := by
    obtain ⟨c, oc, vs, tq, e, e1, e2, e3⟩ := hcd
    exact ⟨c, oc, vs, tq, e, hk _ _ e1, e2, e3⟩
  refine wpAny_call (PySem.W.kla_callFunE hA (hk _ _ hf) rfl L.co L.gen rfl hcd' ?_)
  rw [hbind]
  refine wpAny_pure (wpAny_newFunctionEnv L.cell (fun y hy => ?_) (fun h₁ hns hsb => ⟨(lim.keeps hk).fresh _ hsb, ?_⟩) L.kind)
  · have e : y = (x, v) := by simpa using hy
    rw [e]; exact L.loc
  show codeAny _ _ (.expr body (kEnv X scope h.objs.size f c')) _ _
  have kp : ∀ b o, h.get? b = some o → h₁.get? b = some o := fun b o e => hsb.extBut b o (Nat.ne_of_lt (Heap.lt_size e)) (Heap.get?_push_of_some _ e)
  refine PySem.W.kla_codeExpr (wpAny_mono (hb _ _ f c' { s with heap := h₁, toks := tk + 1 } hns (fun b o e => kp b o (hk b o e)) hu) (fun u s3 hq => ?_) fun _ _ z => z.elim)
  obtain ⟨h', tk', rfl, hk2, hr⟩ := hq
  exact ⟨h', tk', rfl, fun b o e => hk2 b o (kp b o e), hr⟩
end
end HD
end
section
/-! The data layer: sorted(xs, key=lambda one: ..), its rule and its reading. -/
namespace HD
open PySem PySem.Spec L2
open PyProof.Rows hiding St
/-- what the keys are of: KH says it of a value at a heap -/
structure KeyR (X : Cx) (body : Expr) (scope : Scope) (x : Str) (KH : Hp → V → D → Prop) (kf : D → PyData) : Prop where
  body : ∀ (pins : List (Addr × Obj)) (s : Shared) (σ : L2.St) (H : Hp) (v : V) (u : Value) (d : D), Inv X pins σ H s → RelV v u → KH H v d → KeyBody X body scope x s.heap u (kf d)
  stay : ∀ (H H1 : Hp) (v : V) (d : D), (∀ a o, H a = some o → nTb o → H1 a = some o) → KH H v d → KH H1 v d
  deep : ∀ (H : Hp) (v : V) (d : D), KH H v d → (kf d).depth ≤ 8
def tSortKey (K : PySem.W.Frag) (KH : Hp → V → D → Prop) (kf : D → PyData) (ta : TA) : TE := fun σ H Q => ta σ H fun vs H1 => LamX.Tabs (tabT K) H1 ∧ ∃ (a : Addr) (xs : List V) (ds : List D) (R0 : V → D → Prop), vs = [.ref a] ∧ SqL K H1 a xs ∧ Paired R0 xs ds ∧ (∀ v d, R0 v d → KH H1 v d) ∧
  PySem.W.AllAlike (ds.map kf) ∧ PySem.W.Sortable (ds.map kf) ∧ ∀ (H2 : Hp) (p : Addr) (ys : List V), (∀ a o, H1 a = some o → nTb o → H2 a = some o) → (∀ a o, H1 a = some o → ∃ o', H2 a = some o') → LamX.Tabs (tabT K) H2 → H2 p = none →
    Paired R0 ys (ds.mergeSort (PySem.W.dataLe false kf)) → Q (.ref p) (upd H2 p (.lst ys))
theorem each_of {R0 : V → D → Prop} : ∀ {xs : List V} {us : List Value} {ds : List D}, Vals xs us → Paired R0 xs ds → PySem.W.EachIs (fun u d => ∃ v, RelV v u ∧ R0 v d) us ds
  | _, _, _, .nil, .nil => .nil
  | _, _, _, .cons r t, .cons q t' => .cons ⟨_, r, q⟩ (each_of t t')
theorem of_each {R0 : V → D → Prop} : ∀ {us : List Value} {ds : List D}, PySem.W.EachIs (fun u d => ∃ v, RelV v u ∧ R0 v d) us ds → ∃ ys, Vals ys us ∧ Paired R0 ys ds
  | _, _, .nil => ⟨[], .nil, .nil⟩
  | _, _, .cons ⟨v, r, q⟩ t => by
    obtain ⟨ys, h1, h2⟩ := of_each t
    exact ⟨v :: ys, .cons r h1, .cons q h2⟩
section
variable {X : Cx}
theorem pe_sortKey {KH : Hp → V → D → Prop} {kf : D → PyData} {c P : Addr} {e : Expr} {params : Arguments} {body : Expr} {scope : Scope} {x : Str} {p pos lpos kpos : Pos} {ta : TA} {j : Nat} (R : KeyR X body scope x KH kf) (hr : Room j X.A) (hg : Gl X "sorted") (hm : X.mg "sorted" = none) (ha : PA X [e] ta)
    (TB : LamX.TabB X.base X.mg c P) (hcode : X.env.code = .ref c) (hmT : (P, X.env.qual ++ ("<lambda>" : Str)) ∈ tabT X.K) (hu : ∀ p ∈ tabT X.K, p.1 = P → p.2 = X.env.qual ++ ("<lambda>" : Str)) (hdef : defaultsOf params X.env = ([], [])) (L : KScope scope x)
    (hbind : ∀ (q : Str) (pm cv ctv u : Value), bindArgs (PySem.W.kla_fn "<lambda>" q params body scope [] pm cv ctv) ⟨[u], []⟩ = pure [(x, u)]) (hv : bootBuiltins "sorted" = some (.builtin "sorted") := by decide +kernel)
    (he : backTo pos (starEach [e] X.env) = (false, eval e X.env) :: backTo pos (starEach [] X.env) := by rfl) (hpl : (backTo pos (starEach [e] X.env)).any (·.1) = false := by rfl) :
    PE X (.Call (.Name "sorted" p) [e] [⟨some (Str.ofString "key"), .Lambda params body scope lpos, kpos⟩] pos) (tSortKey X.K KH kf ta) := by
  refine ⟨fun pins s σ H Q I h => ?_⟩
  refine wpAny_Call_Name_kw (ld_blt I hg hm hv ?_)
  refine PyProof.Rows.callWith_kw (thn (ha.run pos pins s σ H _ I h) fun us s1 ⟨vs, H1, I1, r1, q1⟩ => ?_) he hpl rfl rfl
  obtain ⟨hT, a, xs, ds, R0, rfl, hq, hp, hK, hal, hsk, q⟩ := q1
  obtain rfl := Vals.ref1 r1
  show wpAny _ _ (evalAll [(do let v ← eval (.Lambda params body scope lpos) X.env; standAt pos; pure v)]) _ _ s1
  refine wpAny_evalAll_cons (wpAny_bind (lam_mk I1 TB hcode hmT hu hT hdef (fun y hy z => absurd z (L.free y hy)) fun f c' pm ctv H2 s2 I2 k2 t2 T2 hf hfn hfr hco => wpAny_bind (wpAny_standAt (wpAny_pure (wpAny_evalAll_nil ?_)))))
  rw [L.clo] at hf
  show wpAny _ _ (call (.builtin "sorted") [.ref a] [(Str.ofString "key", .ref f)]) _ _ s2
  have hq2 : SqL X.K H2 a xs := by
    rcases hq with (hq | ⟨o, hq⟩) | hq
    · exact .inl (.inl (k2 _ _ hq fun _ z => nomatch z))
    · exact .inl (.inr ⟨o, k2 _ _ hq fun _ z => nomatch z⟩)
    · exact .inr hq
  obtain ⟨its, rv, pl, hz⟩ := I2.list hq2
  have hld : xs.length = ds.length := Paired.length hp
  have hun := hr.un
  have hcd : s2.heap.CodeRec (.ref c') (X.env.qual ++ ("<lambda>" : Str)) := by
    obtain ⟨⟨oc, vs, t, e1, e2, e3⟩, _⟩ := I2.hok c' _ hco
    exact ⟨c', oc, vs, t, rfl, e1, e2, e3⟩
  refine PySem.W.sorted_key_data (β := D) (R := fun u d => ∃ v, RelV v u ∧ R0 v d) (b := false) kf pl.isList (each_of rv hp) hal hsk (by omega) (fun d hd => ?_) (PyProof.Rows.ksk_s1 _ _) (fun _ => PyProof.Rows.ksk_l1 _ _) (fun _ => PyProof.Rows.ksk_t1 f _)
    (fun u d hud hd h tk hk => ?_) (fun out cc h' tk hk fresh hD hlen he2 => ?_)
  · obtain ⟨v, _, r0⟩ : ∃ v, v ∈ xs ∧ R0 v d := by
      have : ∀ {xs : List V} {ds : List D}, Paired R0 xs ds → d ∈ ds → ∃ v, v ∈ xs ∧ R0 v d := by
        intro xs ds h
        induction h with
        | nil => intro h; exact absurd h (by simp)
        | cons a b ih =>
          intro h
          rcases List.mem_cons.mp h with rfl | h
          · exact ⟨_, List.mem_cons_self, a⟩
          · obtain ⟨v, h1, h2⟩ := ih h
            exact ⟨v, List.mem_cons_of_mem _ h1, h2⟩
      exact this hp hd
    have := R.deep H1 v d (hK v d r0)
    omega
  · obtain ⟨v, ru, r0⟩ := hud
    exact key_run I2.nolimit hf hcd L hbind hk hr.depth (by show X.A.units + 1 + 1 + 3 < cLine; omega) (R.body pins s2 σ H2 v u d I2 ru (R.stay H1 H2 v d k2 (hK v d r0)))
  · obtain ⟨ys, hy1, hy2⟩ := of_each he2
    have hyl : ys.length = ds.length := by rw [hy1.length, hlen]
    refine ⟨.ref _, upd H2 _ (.lst ys), I2.laid (t' := tk) hk (Nat.le_succ _) ⟨by omega, out, cc, hy1, hD⟩, rfl, q H2 _ ys k2 t2 T2 (I2.hok.fresh (Nat.le_succ _)) hy2⟩
end
/-! ### the readings -/
theorem RowOk.grown {K : PySem.W.Frag} {r : Option Addr} {rw : Rw} {H G H' : Hp} (h : RowOk K r rw H G) (e : ∀ a o, H a = some o → nTb o → H' a = some o) : RowOk K r rw H' G := by
  unfold RowOk at h ⊢
  cases r with
  | none => cases rw <;> exact h
  | some a =>
    cases rw with
    | none => exact h
    | some w =>
      obtain ⟨h1, v, h2, h3⟩ := h
      exact ⟨h1, v, e _ _ h2 nTb_lst, h3⟩
section
variable {X : Cx} {W : WD}
def sortKeyD (kf : D → PyData) (ok : D → Bool) : List D → Option D
  | [.lst ds] => if ds.all ok = true then some (.lst (ds.mergeSort (PySem.W.dataLe false kf))) else none
  | _ => none
theorem paired_reps {K : PySem.W.Frag} {r : Option Addr} {G : Hp} : ∀ {ds : List D} {vs : List V}, Reps K r G ds vs → Paired (fun v d => Rep K r G d v) vs ds
  | [], vs, h => by unfold Reps at h; subst h; exact .nil
  | d :: ds, vs, h => by
    unfold Reps at h
    obtain ⟨v, t, rfl, h1, h2⟩ := h
    exact .cons h1 (paired_reps h2)
theorem reps_paired {K : PySem.W.Frag} {r : Option Addr} {G : Hp} : ∀ {vs : List V} {ds : List D}, Paired (fun v d => Rep K r G d v) vs ds → Reps K r G ds vs
  | _, _, .nil => Reps.nil
  | _, _, .cons h t => Reps.cons h (reps_paired t)
theorem redSortKey {KH : Hp → V → D → Prop} {kf : D → PyData} {ok : D → Bool} {g : EM (List D)} (hK : ∀ (r : Option Addr) (G H : Hp) (d : D) (v : V), Same G H → Rep X.K r G d v → ok d = true → KH H v d) (hal : ∀ d e, ok d = true → ok e = true → PySem.W.alike (kf d) (kf e) = true)
    (hsk : ∀ d, ok d = true → ∃ x r, kf d = .tuple (x :: r)) : ∀ σ H Q, tO X.K W (eArgs (sortKeyD kf ok) g) σ H Q → tSortKey X.K KH kf (tA X.K W g) σ H Q := by
  intro σ H Q hq
  obtain ⟨C, l, rw, G, S, hp⟩ := hq
  refine seqA (P := POq X.K W C l σ H G Q) S hp (fun _ _ z => z) (fun z => z) fun ds rw1 vs H1 G1 S1 s1 r1 h1 => ?_
  dsimp only [POq] at h1
  cases e3 : sortKeyD kf ok ds with
  | none => rw [e3] at h1; exact h1.elim
  | some d =>
    rw [e3] at h1
    unfold sortKeyD at e3
    split at e3
    case h_2 => cases e3
    case h_1 xs =>
      split at e3
      case isFalse => cases e3
      case isTrue hok =>
        cases e3
        obtain ⟨v, rfl, r2⟩ := reps1 r1
        unfold Rep at r2
        obtain ⟨a, us, rfl, a1, a2, a3⟩ := r2
        have hok' : ∀ d ∈ xs, ok d = true := List.all_eq_true.mp hok
        refine ⟨S1.tabs, a, us, xs, fun v d => Rep X.K C.r G1 d v ∧ ok d = true, rfl, .of (S1.sub _ _ a1), ?_, fun v d h => hK C.r G1 H1 d v S1.sub h.1 h.2, ?_, ?_, fun H2 p ys k2 t2 T2 hp2 hy => ?_⟩
        · have : ∀ {vs : List V} {ds : List D}, Paired (fun v d => Rep X.K C.r G1 d v) vs ds → (∀ d ∈ ds, ok d = true) → Paired (fun v d => Rep X.K C.r G1 d v ∧ ok d = true) vs ds := by
            intro vs ds h
            induction h with
            | nil => intro _; exact .nil
            | cons h t ih => intro hd; exact .cons ⟨h, hd _ List.mem_cons_self⟩ (ih fun d hd' => hd d (List.mem_cons_of_mem _ hd'))
          exact this (paired_reps a3) hok'
        · intro x hx y hy
          obtain ⟨d, hd, rfl⟩ := List.mem_map.mp hx
          obtain ⟨e, he, rfl⟩ := List.mem_map.mp hy
          exact hal d e (hok' d hd) (hok' e he)
        · refine .inl fun x hx => ?_
          obtain ⟨d, hd, rfl⟩ := List.mem_map.mp hx
          exact hsk d (hok' d hd)
        · have g2 : Gr X.K C.r H1 G1 H2 G1 := ⟨fun a o e _ nt => k2 a o e nt, Same.refl _, fun a o e => .inl e, fun a o e => k2 a o (S1.sub a o e) (S1.gt a o e), t2, fun _ => T2⟩
          have S2 : SR X.K C l rw1 σ H2 G1 := S1.grow g2 (S1.row.grown k2)
          have hr2 : Reps X.K C.r G1 (xs.mergeSort (PySem.W.dataLe false kf)) ys := reps_paired (Paired.mapP hy fun _ _ z => z.1)
          refine h1 p _ _ (S2.newO hp2) ((s1.trans g2).trans (Gr.newO S2.sub hp2)) ?_ (S2.ownNew hp2 ⟨_, rfl, ?_, hr2⟩ rfl)
          · cases z : H p with
            | none => rfl
            | some o => obtain ⟨o', z2⟩ := (s1.trans g2).t _ _ z; rw [hp2] at z2; cases z2
          · rw [← hr2.length, List.length_mergeSort, a3.length]; exact a2
end
end HD
end
section
/-! The data layer: the key lambdas of the program. -/
namespace HD
open PySem PySem.Spec L2
open PyProof.Rows hiding St
theorem SqT.grown {K : PySem.W.Frag} {H H1 : Hp} {a : Addr} {xs : List V} (e : ∀ a o, H a = some o → nTb o → H1 a = some o) (h : SqT K H a xs) : SqT K H1 a xs := by
  rcases h with (h | ⟨o, h⟩) | h
  · exact .inl (.inl (e _ _ h fun _ z => nomatch z))
  · exact .inl (.inr ⟨o, e _ _ h fun _ z => nomatch z⟩)
  · exact .inr h
/-- the keys (len(one), one), one a tuple of whole numbers -/
def KH1 (K : PySem.W.Frag) (H : Hp) (v : V) (d : D) : Prop := ∃ (t : Addr) (ns : List Int), v = .ref t ∧ d = .tup (ns.map D.int) ∧ SqT K H t (ns.map V.int) ∧ ns.length ≤ 1000
def kf1 : D → PyData
  | .tup xs => .tuple [.int (xs.length : Nat), .tuple (toPys xs)]
  | _ => .tuple [.int 0, .tuple []]
def ok1 : D → Bool
  | .tup xs => (match toInts xs with
    | some ns => decide (ns.length ≤ 1000)
    | none => false)
  | _ => false
theorem toPys_ints : ∀ ns : List Int, toPys (ns.map D.int) = ns.map PyData.int
  | [] => by simp [toPys]
  | n :: ns => by simp [toPys, toPy, toPys_ints ns]
theorem readsAll_ints {h : Heap} : ∀ {ns : List Int} {us : List Value}, Vals (ns.map V.int) us → PySem.ReadsAll h us (ns.map PyData.int) []
  | [], _, r => by cases r; exact .nil
  | n :: ns, _, r => by
    cases r with
    | cons a b =>
      obtain ⟨t, rfl⟩ := a
      exact .cons (as := []) (bs := []) (.int n t) (readsAll_ints b)
theorem ok1_ints {d : D} (h : ok1 d = true) : ∃ ns : List Int, d = .tup (ns.map D.int) ∧ ns.length ≤ 1000 := by
  unfold ok1 at h
  split at h
  case h_2 => cases h
  case h_1 xs =>
    split at h
    case h_2 => cases h
    case h_1 ns e => exact ⟨ns, by rw [toInts_eq e], of_decide_eq_true h⟩
theorem key1 {X : Cx} {scope : Scope} {x : Str} {p1 p2 p3 p4 pos : Pos} {j : Nat} (hx : scope.names.lookup x = some .local) (hl : scope.names.lookup (Str.ofString "len") = some .globalImplicit) (hk : scope.kind = .function) (hm : X.mg "len" = none) (hd : (x == ("__debug__" : Str)) = false := by decide) :
    KeyR X (.Tuple [.Call (.Name "len" p1) [.Name x p2] [] p3, .Name x p4] j pos) scope x (KH1 X.K) kf1 where
  stay := fun H H1 v d e ⟨t, ns, a, b, c, n⟩ => ⟨t, ns, a, b, SqT.grown e c, n⟩
  deep := fun H v d ⟨t, ns, a, b, c, n⟩ => by
    subst b
    show PyData.depth (.tuple [.int _, .tuple (toPys (ns.map D.int))]) ≤ 8
    rw [toPys_ints]
    simp [PyData.depth, PyData.depthAll, PySem.W.depth_ints]
  body := by
    rintro pins s σ H v u d I ru ⟨t, ns, rfl, rfl, hq, hn⟩ A L f c' s2 hns hk2 hA
    obtain rfl : u = Value.ref t := ru
    obtain ⟨its, rv, pl, hz⟩ := I.tuple hq
    have pl2 : IsTup s2.heap t its.toArray := let ⟨o, e, c⟩ := pl; ⟨o, hk2 _ _ e, c⟩
    have hil : its.length = ns.length := by have := rv.length; rw [List.length_map] at this; exact this.symm
    obtain ⟨mb, hb1, hb2⟩ := I.mod.blt
    have hgN : s2.heap.Ns mainGlobals X.mg := (I.mod.glob.keeps I.bk).keeps hk2
    have hbN : s2.heap.Ns builtinsNs mb := (hb1.keeps I.bk).keeps hk2
    have one : ∀ (s3 : Shared) (pp : Pos) (Q : Value → Shared → Prop) (E : Value → Shared → Prop), s3.heap = s2.heap → Q (.ref t) s3 → wpAny (model X.prog X.w) A (eval (.Name x pp) (kEnv X scope L f c')) Q E s3 := by
      intro s3 pp Q E e q
      refine wpAny_Name (wpAny_loadName_local hk hx (by rw [e]; exact hns) ?_ q) hd
      show ([(x, Value.ref t)] : List (Str × Value)).reverse.lookup x = some (.ref t)
      simp [List.lookup]
    refine wpAny_Tuple_spliced (args_cons ?_)
    refine wpAny_Call_Name_kw (Calls.Name_function_global hk hl (Calls.loadGlobal_builtin hgN hm hbN ((hb2 _ (by decide)).trans PySem.boot_len) ?_))
    refine PyProof.Rows.callWith_builtin1 (args_cons (one s2 p2 _ _ rfl (args_nil ?_)))
    refine len_tuple pl2 (by rw [List.size_toArray, hil]; omega) ?_
    refine args_cons (one _ p4 _ _ rfl (args_nil ⟨by show 2 ≤ sizeLine; rw [sizeLine_eq]; decide, ?_⟩))
    refine ⟨_, _, rfl, fun b o e => Heap.get?_push_of_some _ e, ?_⟩
    show PySem.Reads _ _ (.tuple [.int ((ns.map D.int).length : Nat), .tuple (toPys (ns.map D.int))]) []
    rw [toPys_ints, List.length_map]
    obtain ⟨o, e, c, n, dd⟩ := pl2
    refine .tuple (as := []) (Heap.get?_push_size _ rfl) rfl rfl (.cons (as := []) (bs := []) ?_ (.cons (as := []) (bs := []) ?_ .nil))
    · rw [← hil, ← List.size_toArray]; exact .int _ _
    · exact .tuple (Heap.get?_push_of_some _ e) c dd (by simpa using readsAll_ints rv)
theorem alike_ints' (xs ys : List Int) : PySem.W.alikeAll (xs.map PyData.int) (ys.map PyData.int) = true := PySem.W.alike_ints xs ys
theorem ok1_KH {K : PySem.W.Frag} (r : Option Addr) (G H : Hp) (d : D) (v : V) (s : Same G H) (rr : Rep K r G d v) (h : ok1 d = true) : KH1 K H v d := by
  obtain ⟨ns, rfl, hn⟩ := ok1_ints h
  unfold Rep at rr
  obtain ⟨a, vs, rfl, a1, a2, a3⟩ := rr
  have := Reps.ints a3
  subst this
  exact ⟨a, ns, rfl, rfl, Same.seqT s a1, hn⟩
theorem ok1_alike (d e : D) (h : ok1 d = true) (h' : ok1 e = true) : PySem.W.alike (kf1 d) (kf1 e) = true := by
  obtain ⟨ns, rfl, _⟩ := ok1_ints h
  obtain ⟨ms, rfl, _⟩ := ok1_ints h'
  show PySem.W.alike (.tuple [.int _, .tuple (toPys _)]) (.tuple [.int _, .tuple (toPys _)]) = true
  rw [toPys_ints, toPys_ints]
  simp [PySem.W.alike, PySem.W.alikeAll, alike_ints']
theorem ok1_sort (d : D) (h : ok1 d = true) : ∃ x r, kf1 d = .tuple (x :: r) := by
  obtain ⟨ns, rfl, _⟩ := ok1_ints h
  exact ⟨_, _, rfl⟩
section
variable {X : Cx} {W : WD}
/-- the def's own code object and its table, among those of the text -/
structure LamT (K : PySem.W.Frag) (mg : Str → Option Value) (base : Heap) (nm : Str) (c P : Addr) : Prop where
  tb : LamX.TabB base mg c P
  mem : (P, (nm ++ (".<locals>." : Str)) ++ ("<lambda>" : Str)) ∈ tabT K
  uni : ∀ p ∈ tabT K, p.1 = P → p.2 = (nm ++ (".<locals>." : Str)) ++ ("<lambda>" : Str)
theorem do_sortKey1 {e : Expr} {params : Arguments} {scope : Scope} {x nm : Str} {p pos lpos kpos p1 p2 p3 p4 tpos : Pos} {g : EM (List D)} {j i : Nat} {c P : Addr} (hr : Room j X.A) (hg : Gl X "sorted") (hm : X.mg "sorted" = none) (hml : X.mg "len" = none) (ha : DA X W [e] g)
    (T : LamT X.K X.mg X.base nm c P) (hq : X.env.qual = nm ++ (".<locals>." : Str)) (hcode : X.env.code = .ref c) (hdef : defaultsOf params X.env = ([], [])) (L : KScope scope x) (hl : scope.names.lookup (Str.ofString "len") = some .globalImplicit)
    (hbind : ∀ (q : Str) (pm cv ctv u : Value), bindArgs (PySem.W.kla_fn "<lambda>" q params (.Tuple [.Call (.Name "len" p1) [.Name x p2] [] p3, .Name x p4] i tpos) scope [] pm cv ctv) ⟨[u], []⟩ = pure [(x, u)]) (hd : (x == ("__debug__" : Str)) = false := by decide)
    (he : backTo pos (starEach [e] X.env) = (false, eval e X.env) :: backTo pos (starEach [] X.env) := by rfl) (hpl : (backTo pos (starEach [e] X.env)).any (·.1) = false := by rfl) :
    DO X W (.Call (.Name "sorted" p) [e] [⟨some (Str.ofString "key"), .Lambda params (.Tuple [.Call (.Name "len" p1) [.Name x p2] [] p3, .Name x p4] i tpos) scope lpos, kpos⟩] pos) (eArgs (sortKeyD kf1 ok1) g) :=
  pe_imp (pe_sortKey (key1 L.loc hl L.kind hml hd) hr hg hm ha T.tb hcode (by rw [hq]; exact T.mem) (by rw [hq]; exact T.uni) hdef L hbind (he := he) (hpl := hpl)) (redSortKey ok1_KH ok1_alike ok1_sort)
end
end HD
end
section
/-! The data layer: the head with tables of code objects; a def that makes lambdas. -/
namespace HD
open PySem PySem.Spec L2
open PyProof.Rows hiding St
/-- the tables of the text's lambda makers are just those of tf -/
def lamsB (tf : List He.Defn) (K : PySem.W.Frag) : Bool := decide ((tabT K).map (·.1) = tf.map fun p => (He.cT K p).2)
def lamB (nm : Str) (K : PySem.W.Frag) : Bool := decide (((He.cT K (nm, none)).2, (nm ++ (".<locals>." : Str)) ++ ("<lambda>" : Str)) ∈ tabT K) && (tabT K).all fun p => decide (p.1 = (He.cT K (nm, none)).2 → p.2 = (nm ++ (".<locals>." : Str)) ++ ("<lambda>" : Str))
theorem lamT_of {K : PySem.W.Frag} {mg : Str → Option Value} {base : Heap} {nm : Str} (h : lamB nm K = true) (tb : LamX.TabB base mg (He.cT K (nm, none)).1 (He.cT K (nm, none)).2) : LamT K mg base nm (He.cT K (nm, none)).1 (He.cT K (nm, none)).2 := by
  unfold lamB at h
  obtain ⟨h1, h2⟩ := He.ba h
  exact ⟨tb, of_decide_eq_true h1, fun p hp => of_decide_eq_true (List.all_eq_true.mp h2 p hp)⟩
theorem tabs_of {K : PySem.W.Frag} {tf : List He.Defn} {H : Hp} (h : lamsB tf K = true) (hH : ∀ p ∈ tf.map (He.cT K), H p.2 = some (.tbl #[])) : LamX.Tabs (tabT K) H := by
  intro p hp
  have e : (tabT K).map (·.1) = tf.map fun p => (He.cT K p).2 := of_decide_eq_true h
  have hm : p.1 ∈ (tabT K).map (·.1) := List.mem_map.mpr ⟨p, hp, rfl⟩
  rw [e] at hm
  obtain ⟨q, hq, e2⟩ := List.mem_map.mp hm
  have := hH _ (List.mem_map.mpr ⟨q, hq, rfl⟩)
  rw [e2] at this
  exact LamX.TabS.nil this
/-- a def with its code object known -/
structure FnC (K : PySem.W.Frag) (mg : Str → Option Value) (x : Str) (st : Stmt) (ps : List Str) (c : Addr) : Prop where
  ex : ∃ (a : Addr) (fd : FuncData), FunD K x x (defArgs st) (defBody st) (defScope st) [] [] a fd ∧ mg x = some (.ref a) ∧ Binds K fd ps [] ∧ fd.code = .ref c
theorem FnC.of {K : PySem.W.Frag} {mg : Str → Option Value} {x : Str} {st : Stmt} {ps : List Str} (h : ∃ fd : FuncData, FunD K x x (defArgs st) (defBody st) (defScope st) [] [] (He.fAd K (x, none)) fd ∧ mg x = some (.ref (He.fAd K (x, none))) ∧ Binds K fd ps []) : FnC K mg x st ps (He.cT K (x, none)).1 := by
  obtain ⟨fd, F, hm, hb⟩ := h
  refine ⟨_, fd, F, hm, hb, ?_⟩
  obtain ⟨oc, od, dV, kV, doc, pm, an, cdv, ct, osl, rfl, lk, hcd, _, _⟩ := F.ex
  obtain ⟨c, rfl⟩ := He.codeIn_ref hcd
  show Value.ref c = .ref (He.codeOf K (x, none))
  rw [He.codeOf_eq lk rfl]
section
variable {P : Program} {w : World} {K : PySem.W.Frag} {mg : Str → Option Value} {base : Heap}
theorem cal_ofC {x : Str} {st : Stmt} {N ps : List Str} {k : Nat} {own : Bool} {den : SM} {c : Addr} (F : FnC K mg x st ps c) (S : FnScope N ps (defScope st))
    (hb : ∀ (f : Addr) (A : Around) (outer : List Env) (s : Shared) (H : Hp) (E : XK), Room k (A.deeper (envOfC x (defScope st) s.heap.objs.size f (.ref c))) → DSs (cxOf CXF P w K mg base N x (defScope st) f (.ref c) A outer s H E).nox W0 own (defBody st) den) :
    Cal P w K mg base x (k + 1) ps own (dDef own ps.length N.length den) := by
  obtain ⟨a, fd, F, g, b, hc⟩ := F
  refine ⟨a, fd, ?_, g, F.kp, b⟩
  obtain ⟨oc, od, dV, kV, doc, pm, an, cdv, ct, osl, rfl, lk, hcd, _, _⟩ := F.ex
  obtain rfl : cdv = .ref c := hc
  exact fn_of lk hcd S (fun vs H Q E h => sp_len h) fun A outer s H vs Q E hr h => ⟨_, PSs.nox (hb a A outer s H E hr), sp_start (fun _ _ _ z => z) (fun _ _ _ => Iff.rfl) h⟩
end
end HD
end
section
/-! The data layer: xs.pop(e). -/
namespace HD
open PySem PySem.Spec L2
open PyProof.Rows hiding St
section
variable {X : Cx} {W : WD} {own : Bool}
/-- target = own.pop(0) -/
def sPop0 (i : Nat) (tg : D → Dl → Option Dl) : SM := fun l rw => match l[i]? with
  | some (.own (.lst (d :: ds))) => (match tg d (l.set i (.own (.lst ds))) with
      | some l' => .ok (.next, l', rw)
      | none => .stuck)
  | _ => .stuck
theorem ds_pop0 {i : Nat} {tgt e : Expr} {pos : Pos} {js : List Nat} {tg : D → Dl → Option Dl} (hst : PS X (.Assign [tgt] e pos) (tAsg (tBM X.K "list" rPopAt (tVar i) (tCons (tC (.int 0)) tNil)) (tG X.K js tg))) : DS X W own (.Assign [tgt] e pos) (sPop0 i tg) := by
  refine ps_imp hst fun E σ H hq => ?_
  obtain ⟨C, l, rw, G, S, hp⟩ := hq
  unfold sPop0 at hp
  split at hp
  case h_2 => exact hp.elim
  case h_1 d ds e0 =>
    obtain ⟨p, e1, ow⟩ := S.ownAt e0
    obtain ⟨q, eq, hg, h0, hr, vs, b1, b2, b3⟩ := ow
    cases eq
    cases e3 : tg d (l.set i (.own (.lst ds))) with
    | none => rw [e3] at hp; exact hp.elim
    | some l' =>
      rw [e3] at hp
      obtain ⟨v, e4, rv⟩ := b3.get (i := 0) (show (d :: ds)[0]? = some d from rfl)
      have hl : vs.length = ds.length + 1 := by have := b3.length; simpa using this.symm
      refine ⟨.ref p, e1, .inl ⟨rfl, _, .of b1⟩, p, vs, 0, 0, v, rfl, rfl, b1, by decide, by decide, ?_, e4, ?_⟩
      · rw [hl]
        show (if (decide ((0 : Int) ≤ 0) && decide ((0 : Int) < ((ds.length + 1 : Nat) : Int))) = true then some _ else none) = some 0
        have : ((0 : Int) < ((ds.length + 1 : Nat) : Int)) := by omega
        simp [this]
      have S2 := S.mutAt (o' := .lst (vs.eraseIdx 0)) e0 e1 (d' := .lst ds) rfl ⟨_, rfl, by have := List.length_eraseIdx_le vs 0; omega, b3.eraseIdx 0⟩
      exact ⟨C, _, rw, G, d, l', S2, rv, e3, fun σ' S' _ => hp σ' _ G S'⟩
/-! ### x not in range(b) -/
def eNotRg1 (gx g2 : EM D) : EM D := fun l rw => (gx l rw).bind fun p => (g2 l p.2).bind fun t => match p.1, t.1 with
  | .int x, .int b => .ok (.bl (!decide (0 ≤ x ∧ x < b)), t.2)
  | _, _ => .stuck
theorem cr_range1 : CallR X (.type "range") (fun vs H Q => ∃ j, vs = [V.int j] ∧ ∀ p, H p = none → Q (.ref p) (upd H p (.rng 0 j))) := by
  intro pins s σ H vs us Q I r h
  obtain ⟨j, rfl, q⟩ := h
  obtain ⟨u1, rfl, rj⟩ := vals1 r
  obtain ⟨u, rfl⟩ := rj
  refine call_range_1 ⟨.ref s.heap.objs.size, upd H s.heap.objs.size (.rng 0 j), I.laid (t' := s.toks + 1 + 1) (fun b o e => Heap.get?_push_of_some _ e) (Nat.le_refl _) ?_, rfl, q _ (I.hok.fresh (Nat.le_refl _))⟩
  exact ⟨s.toks, u, s.toks + 1, Heap.get?_push_size _ rfl⟩
def tNotRg1 (K : PySem.W.Frag) (W : WD) (gx g2 : EM D) : TE := tOp (fun x y H Q => ∃ i a lo hi, x = V.int i ∧ y = V.ref a ∧ H a = some (.rng lo hi) ∧ Q (.bl (!decide (lo ≤ i ∧ i < hi))) H) (tD K W gx) (fun σ H Q => tCons (tD K W g2) tNil σ H fun vs H2 => (fun vs H Q => ∃ j, vs = [V.int j] ∧ ∀ p, H p = none → Q (.ref p) (upd H p (.rng 0 j))) vs H2 Q)
theorem redNotRg1 {gx g2 : EM D} : ∀ σ H Q, tD X.K W (eNotRg1 gx g2) σ H Q → tNotRg1 X.K W gx g2 σ H Q := by
  intro σ H Q hq
  obtain ⟨C, l, rw, G, S, hp⟩ := hq
  refine seqD (P := PEq X.K W C l σ H G Q) S hp (fun _ _ z => z) (fun z => z) fun d rw1 v H1 G1 S1 s1 r1 h1 => ?_
  refine seqD (P := PEq X.K W C l σ H G Q) S1 h1 (fun _ _ z => z) (fun z => z) fun d3 rw3 v3 H3 G3 S3 s3 r3 h3 => ?_
  dsimp only [PEq] at h3
  cases d with
  | int i =>
    cases d3 with
    | int hi =>
      unfold Rep at r1 r3
      subst r1 r3
      refine ⟨hi, rfl, fun p hp0 => ⟨i, p, 0, hi, rfl, rfl, upd_same, ?_⟩⟩
      exact h3 _ _ G3 (S3.newO hp0) ((s1.trans s3).trans (Gr.newO S3.sub hp0)) (by unfold Rep; rfl)
    | _ => exact h3.elim
  | _ => cases d3 <;> exact h3.elim
theorem de_notRg1 {x b : Expr} {p2 pos2 pos : Pos} {gx g2 : EM D} (hg2 : Gl X "range") (hm2 : X.mg "range" = none) (hx : DE X W x gx) (hb : DE X W b g2)
    (na2 : starEach [b] X.env = (false, eval b X.env) :: starEach [] X.env := by rfl)
    (hm : behindInMarks .NotIn (.Call (.Name "range" p2) [b] [] pos2) = false := by rfl) :
    DE X W (.Compare x [.NotIn] [.Call (.Name "range" p2) [b] [] pos2] pos) (eNotRg1 gx g2) := by
  exact pe_imp (pe_cmpR op_notIn_rng hx (pe_callTy cr_range1 hg2 hm2 (by decide +kernel) (pa_cons hb pa_nil na2) (he := na2)) hm) redNotRg1
theorem dt_notRg1 {x b : Expr} {p2 pos2 pos : Pos} {gx g2 : EM D} (hg2 : Gl X "range") (hm2 : X.mg "range" = none) (hx : DE X W x gx) (hb : DE X W b g2)
    (na2 : starEach [b] X.env = (false, eval b X.env) :: starEach [] X.env := by rfl)
    (hm : behindInMarks .NotIn (.Call (.Name "range" p2) [b] [] pos2) = false := by rfl) :
    DT X W (.Compare x [.NotIn] [.Call (.Name "range" p2) [b] [] pos2] pos) (toB (eNotRg1 gx g2)) := by
  exact pt_imp (pt_cmpR op_notIn_rng hx (pe_callTy cr_range1 hg2 hm2 (by decide +kernel) (pa_cons hb pa_nil na2) (he := na2)) hm) fun σ H Q hq => redNotRg1 _ _ _ (redB σ H Q hq)
theorem hu64 {A : Around} {k : Nat} (hr : Room k A) : A.units + 64 < cLine := by have := hr.un; omega
end
end HD
end
section
namespace HC
end HC
namespace HC
open PySem PySem.Spec L2 HD HC
open PyProof.Rows hiding St
def b_is_many : SM := (sRet (eChain fLe fLe (eK (.int 2)) (eV 0) (eK (.int 6))))
def d_is_many : FD := dDef false 1 1 b_is_many
def b_is_way : SM := (sSeq (sIf (tOr' (toB (eBin fNe (eArgs fLen (aCons (eV 2) aNil)) (eV 0))) (toB (eUn notNonD (eBin fIx (eV 2) (eV 1))))) (sRet (eK (.bl false))) sNext) (sSeq (sFor (aRng rng1 (aCons (eV 0) aNil)) (gN 3) (sSeq (sSet 4 (eBin fIx (eV 2) (eV 3))) (sIf (tAnd' (toB (eUn notNonD (eV 4))) (tOr' (tNot' (toB (eChain fLe fLt (eK (.int 0)) (eV 4) (eV 0)))) (toB (eBin fEq (eV 4) (eV 3))))) (sRet (eK (.bl false))) sNext))) (sRet (eK (.bl true)))))
def d_is_way : FD := dDef false 3 5 b_is_way
def b_need_web : SM := (sSeq (sAsg (eV 0) (gT 3 (gsCons (gN 1) (gsCons (gN 2) (gsCons (gN 3) gsNil))))) (sSeq (sIf (tNot' (toB (eCall d_is_many (aCons (eV 1) aNil)))) sStuck sNext) (sSeq (sIf (tOr' (toB (eBin fNe (eArgs fList (aCons (eV 2) aNil)) (eUn sortSet (eV 2)))) (toB (eBin fNe (eComp (aItems (eV 2)) (gN 5) (tNot' (toB (eChain fLe fLt (eK (.int 1)) (eV 5) (eV 1)))) (eV 5) [5]) (eLst aNil)))) sStuck sNext) (sSeq (sIf (toB (eBin fNe (eArgs fLen (aCons (eV 3) aNil)) (eBin fSub (eV 1) (eK (.int 1))))) sStuck sNext) (sFor (aRng rng2 (aCons (eK (.int 1)) (aCons (eV 1) aNil))) (gN 4) (sIf (tNot' (toB (eCall d_is_way (aCons (eV 1) (aCons (eV 4) (aCons (eBin fIx (eV 3) (eBin fSub (eV 4) (eK (.int 1)))) aNil)))))) sStuck sNext))))))
def d_need_web : FD := dDef false 1 6 b_need_web
def b_need_post : SM := (sIf (tOr' (tNot' (toB (eChain fLe fLt (eK (.int 1)) (eV 2) (eV 0)))) (tOr' (tNot' (toB (eChain fLe fLt (eK (.int 0)) (eV 1) (eV 0)))) (toB (eBin fEq (eV 1) (eV 2))))) sStuck sNext)
def d_need_post : FD := dDef false 3 3 b_need_post
def b_steps_to : SM := (sRet (eBin fMul (eK (.int 2)) (eV 0)))
def d_steps_to : FD := dDef false 1 1 b_steps_to
def b_posts_on : SM := (sSeq (sSet 3 (eK (.int 0))) (sSeq (sSetO 4 (eLst aNil)) (sSeq (sFor (aRng rng1 (aCons (eV 2) aNil)) (gN 5) (sSeq (sIf (tAnd' (toB (eUn notNonD (eV 3))) (toB (eBin fNe (eV 3) (eV 1)))) (sSet 3 (eBin fIxD (eV 0) (eV 3))) sNext) (sMut "list" 4 fAppend (aCons (eV 3) aNil)))) (sRetV 4))))
def d_posts_on : FD := dDef true 3 6 b_posts_on
def b_answer_of : SM := (sSeq (sIf (tOr' (toB (eUn isNonD (eV 2))) (toB (eBin (fIn false) (eV 2) (eV 0)))) (sRet (eK (.tup [.str "nothing"]))) sNext) (sRet (eTup (aCons (eIf (toB (eBin fEq (eV 2) (eV 1))) (eK (.str "there")) (eK (.str "gone"))) (aCons (eV 2) aNil)))))
def d_answer_of : FD := dDef false 3 3 b_answer_of
def b_answers_of : SM := (sRet (eComp (aItems (eCall d_posts_on (aCons (eV 1) (aCons (eV 2) (aCons (eV 3) aNil))))) (gN 4) cYes (eCall d_answer_of (aCons (eV 0) (aCons (eV 2) (aCons (eV 4) aNil)))) [4]))
def d_answers_of : FD := dDef true 4 5 b_answers_of
def b_with_end : SM := (sSeq (sSetO 2 (eK (.dic [] []))) (sSeq (sFor (aRng rng1 (aCons (eBin fSub (eArgs fLen (aCons (eV 0) aNil)) (eK (.int 1))) aNil)) (gN 3) (sDput 2 (eBin fIx (eV 0) (eV 3)) (eBin fIx (eV 0) (eBin fAdd (eV 3) (eK (.int 1)))))) (sSeq (sDput 2 (eBin fIx (eV 0) (eUn fNeg (eK (.int 1)))) (eV 1)) (sRetV 2))))
def d_with_end : FD := dDef true 2 4 b_with_end
def b_all_ways : SM := (sSeq (sSetO 2 (eLst aNil)) (sSeq (sSetO 3 (eLst (aCons (eTup (aCons (eK (.int 0)) aNil)) aNil))) (sSeq (sWhile (tBor 3 (toB (eBin fNe (eV 3) (eLst aNil)))) (sSeq (sPop0 3 (gN 4)) (sFor (aItems (eBin fAdd (eLst (aCons (eK .non) aNil)) (eLRg1 (eV 0)))) (gN 5) (sSeq (sIf (toB (eBin fEq (eV 5) (eBin fIx (eV 4) (eUn fNeg (eK (.int 1)))))) sCont sNext) (sIf (tOr' (toB (eUn isNonD (eV 5))) (tOr' (toB (eBin fEq (eV 5) (eV 1))) (toB (eBin (fIn false) (eV 5) (eV 4))))) (sMut "list" 2 fAppend (aCons (eCall d_with_end (aCons (eV 4) (aCons (eV 5) aNil))) aNil)) (sMut "list" 3 fAppend (aCons (eBin fAdd (eV 4) (eTup (aCons (eV 5) aNil))) aNil)))))) 100) (sRetV 2))))
def d_all_ways : FD := dDef true 2 6 b_all_ways
def b_all_silent : SM := (sSeq (sSet 2 (eLst (aCons (eTup aNil) aNil))) (sSeq (sFor (aRng rng2 (aCons (eK (.int 1)) (aCons (eV 0) aNil))) (gN 3) (sIf (toB (eBin (fIn true) (eV 3) (eV 1))) (sSet 2 (eBin fAdd (eV 2) (eComp (aItems (eV 2)) (gN 4) cYes (eBin fAdd (eV 4) (eTup (aCons (eV 3) aNil))) [4]))) sNext)) (sRet (eArgs (sortKeyD kf1 ok1) (aCons (eV 2) aNil)))))
def d_all_silent : FD := dDef false 2 5 b_all_silent
def b_seen_in : SM := (sRet (eComp (aItems (eV 0)) (gN 1) (toB (eBin fNe (eV 1) (eK (.tup [.str "nothing"])))) (eBin fIx (eV 1) (eK (.int 1))) [1]))
def d_seen_in : FD := dDef true 1 2 b_seen_in
def b_gives : SM := (sSeq (sSet 4 (eCall d_answers_of (aCons (eV 0) (aCons (eV 1) (aCons (eV 2) (aCons (eArgs fMaxK (aCons (eV 3) aNil)) aNil)))))) (sRet (eBin fEq (eComp (aKeys (eV 3)) (gN 5) (toB (eBin fNe (eBin fIx (eV 4) (eBin fSub (eV 5) (eK (.int 1)))) (eBin fIxD (eV 3) (eV 5)))) (eV 5) [5]) (eLst aNil))))
def d_gives : FD := dDef false 4 6 b_gives
def b_giving : SM := (sRet (eComp (aItems (eV 0)) (gN 4) (toB (eCall d_gives (aCons (eV 1) (aCons (eV 4) (aCons (eV 2) (aCons (eV 3) aNil)))))) (eV 4) [4]))
def d_giving : FD := dDef true 4 5 b_giving
def b_dues_of : SM := (sSeq (sSetO 1 (eK (.dic [] []))) (sSeq (sFor (aRng rng2 (aCons (eK (.int 1)) (aCons (eBin fIx (eV 0) (eK (.int 0))) aNil))) (gN 2) (sSeq (sSet 3 (eCall d_answers_of (aCons (eBin fIx (eV 0) (eK (.int 1))) (aCons (eBin fIx (eBin fIx (eV 0) (eK (.int 2))) (eBin fSub (eV 2) (eK (.int 1)))) (aCons (eV 2) (aCons (eCall d_steps_to (aCons (eBin fIx (eV 0) (eK (.int 0))) aNil)) aNil)))))) (sDput 1 (eV 2) (eArgs fDictP (aCons (eComp (aRng rng1 (aCons (eArgs fLen (aCons (eV 3) aNil)) aNil)) (gN 4) cYes (eTup (aCons (eBin fAdd (eV 4) (eK (.int 1))) (aCons (eBin fIx (eV 3) (eV 4)) aNil))) [4]) aNil))))) (sRetV 1)))
def d_dues_of : FD := dDef true 1 5 b_dues_of
def b_all_worlds : SM := (sSeq (sSet 1 (eCall d_dues_of (aCons (eV 0) aNil))) (sSeq (sSetO 2 (eLst aNil)) (sSeq (sFor (aKeys (eV 1)) (gN 3) (sMut "list" 2 fExtend (aCons (eCall d_seen_in (aCons (eVals (eBin fIxD (eV 1) (eV 3))) aNil)) aNil))) (sSeq (sSetO 4 (eLst aNil)) (sSeq (sSet 5 (eArgs fDictP (aCons (eComp (aKeys (eV 1)) (gN 3) cYes (eTup (aCons (eV 3) (aCons (eCall d_all_ways (aCons (eBin fIx (eV 0) (eK (.int 0))) (aCons (eV 3) aNil))) aNil))) [3]) aNil))) (sSeq (sFrz 2) (sSeq (sFor (aItems (eCall d_all_silent (aCons (eBin fIx (eV 0) (eK (.int 0))) (aCons (eV 2) aNil)))) (gN 6) (sSeq (sSet 7 (eComp (aRng rng2 (aCons (eK (.int 1)) (aCons (eBin fIx (eV 0) (eK (.int 0))) aNil))) (gN 3) cYes (eCall d_giving (aCons (eBin fIxD (eV 5) (eV 3)) (aCons (eV 6) (aCons (eV 3) (aCons (eBin fIxD (eV 1) (eV 3)) aNil))))) [3])) (sIf (toB (eBin fNotInN (eLst aNil) (eV 7))) (sMut "list" 4 fAppend (aCons (eTup (aCons (eV 6) (aCons (eV 7) aNil))) aNil)) sNext))) (sRetV 4))))))))
def d_all_worlds : FD := dDef true 1 8 b_all_worlds
def b_with_way : SM := (sSeq (sSetO 4 (eComp (aRng rng1 (aCons (eArgs fLen (aCons (eV 1) aNil)) aNil)) (gN 5) cYes (eGet2 (eV 0) (eV 5) (eBin fIx (eV 1) (eV 5))) [5])) (sSeq (sIf (toB (eUn notNonD (eV 2))) (sStore 4 (eV 2) (eV 3)) sNext) (sRet (eTupO 4))))
def d_with_way : FD := dDef false 4 6 b_with_way
def b_other_next : SM := (sRet (eIf (toB (eUn notNonD (eV 2))) (eK .non) (eBin fIx (eComp (aRng rng1 (aCons (eV 0) aNil)) (gN 3) (toB (eBin fNe (eV 3) (eV 1))) (eV 3) [3]) (eK (.int 0)))))
def d_other_next : FD := dDef false 3 4 b_other_next
def b_twin_in : SM := (sSeq (sAsg (eV 1) (gT 2 (gsCons (gN 4) (gsCons (gN 5) gsNil)))) (sSeq (sSet 6 (eBin fIx (eBin fIx (eBin fIx (eV 0) (eK (.int 2))) (eBin fSub (eV 3) (eK (.int 1)))) (eV 2))) (sSeq (sFor (aItems (eBin fIx (eV 5) (eBin fSub (eV 3) (eK (.int 1))))) (gN 7) (sIf (tOr' (toB (eBin fNe (eGet2 (eV 7) (eV 2) (eV 6)) (eV 6))) (toB (eBin (fDin true) (eV 2) (eV 7)))) (sSeq (sSetO 8 (eComp (aRng rng1 (aCons (eArgs fLen (aCons (eV 5) aNil)) aNil)) (gN 10) cYes (eCall d_with_way (aCons (eBin fIx (eBin fIx (eV 5) (eV 10)) (eK (.int 0))) (aCons (eBin fIx (eBin fIx (eV 0) (eK (.int 2))) (eV 10)) (aCons (eK .non) (aCons (eK .non) aNil))))) [10])) (sSeq (sSet 9 (eGet2 (eV 7) (eV 2) (eCall d_other_next (aCons (eBin fIx (eV 0) (eK (.int 0))) (aCons (eV 2) (aCons (eV 6) aNil)))))) (sSeq (sStore 8 (eBin fSub (eV 3) (eK (.int 1))) (eCall d_with_way (aCons (eV 7) (aCons (eBin fIx (eBin fIx (eV 0) (eK (.int 2))) (eBin fSub (eV 3) (eK (.int 1)))) (aCons (eV 2) (aCons (eV 9) aNil)))))) (sRet (eTup (aCons (eBin fIx (eV 0) (eK (.int 0))) (aCons (eV 4) (aCons (eTupO 8) aNil)))))))) sNext)) (sRet (eK .non)))))
def d_twin_in : FD := dDef false 4 11 b_twin_in
def b_twin_of : SM := (sSeq (sFor (aItems (eV 1)) (gN 4) (sSeq (sSet 5 (eCall d_twin_in (aCons (eV 0) (aCons (eV 4) (aCons (eV 2) (aCons (eV 3) aNil)))))) (sIf (toB (eUn notNonD (eV 5))) (sRet (eV 5)) sNext))) (sRet (eK .non)))
def d_twin_of : FD := dDef false 4 6 b_twin_of
def b_twin : SM := (sSeq (sExpr (eCall d_need_web (aCons (eV 0) aNil))) (sSeq (sExpr (eCall d_need_post (aCons (eBin fIx (eV 0) (eK (.int 0))) (aCons (eV 1) (aCons (eV 2) aNil))))) (sRet (eCall d_twin_of (aCons (eV 0) (aCons (eCall d_all_worlds (aCons (eV 0) aNil)) (aCons (eV 1) (aCons (eV 2) aNil))))))))
def d_twin : FD := dDef false 3 3 b_twin
def b_known : SM := (sSeq (sExpr (eCall d_need_web (aCons (eV 0) aNil))) (sSeq (sSet 1 (eCall d_all_worlds (aCons (eV 0) aNil))) (sSeq (sSetO 2 (eLst aNil)) (sSeq (sFor (aRng rng1 (aCons (eBin fIx (eV 0) (eK (.int 0))) aNil)) (gN 3) (sFor (aRng rng2 (aCons (eK (.int 1)) (aCons (eBin fIx (eV 0) (eK (.int 0))) aNil))) (gN 4) (sIf (tAnd' (toB (eBin fNe (eV 3) (eV 4))) (toB (eUn isNonD (eCall d_twin_of (aCons (eV 0) (aCons (eV 1) (aCons (eV 3) (aCons (eV 4) aNil)))))))) (sMut "list" 2 fAppend (aCons (eTup (aCons (eV 3) (aCons (eV 4) (aCons (eBin fIx (eBin fIx (eBin fIx (eV 0) (eK (.int 2))) (eBin fSub (eV 4) (eK (.int 1)))) (eV 3)) aNil)))) aNil)) sNext))) (sRetV 2)))))
def d_known : FD := dDef true 1 5 b_known
def b__law_taken : SM := (sSeq (sRow 1 0 (eBin fAdd (eRow 1 0) (eK (.int 1)))) (sSeq (sIf (toB (eBin fGt (eRow 1 0) (eArgs fLen (aCons (eRow 0 0) aNil)))) (sSeq (sRow 2 0 (eBin fMod (eBin fAdd (eBin fMul (eRow 2 0) (eK (.int 48271))) (eK (.int 11))) (eK (.int 2147483647)))) (sRet (eBin fMod (eBin fFdiv (eRow 2 0) (eK (.int 7))) (eV 1)))) sNext) (sSeq (sSet 2 (eBin fIx (eRow 0 0) (eBin fSub (eRow 1 0) (eK (.int 1))))) (sSeq (sRow 2 0 (eBin fMod (eBin fAdd (eBin fAdd (eBin fMul (eRow 2 0) (eK (.int 48271))) (eV 2)) (eK (.int 11))) (eK (.int 2147483647)))) (sRet (eBin fMod (eV 2) (eV 1)))))))
def d__law_taken : FD := dDef false 2 3 b__law_taken
def b__law_alike (self : FD) : SM := (sSeq (sIf (tOr' (toB (eArgs fIsi (aCons (eV 1) (aCons (eK (.raw (.ty "tuple"))) aNil)))) (toB (eArgs fIsi (aCons (eV 1) (aCons (eK (.raw (.ty "list"))) aNil))))) (sSeq (sIf (tOr' (toB (eBin fNe (eArgs fIsi (aCons (eV 0) (aCons (eK (.raw (.ty "tuple"))) aNil))) (eArgs fIsi (aCons (eV 1) (aCons (eK (.raw (.ty "tuple"))) aNil))))) (tNot' (toB (eUn (fIsi2 "tuple" "list") (eV 0))))) (sRet (eK (.bl false))) sNext) (sSeq (sIf (toB (eBin fNe (eArgs fLen (aCons (eV 0) aNil)) (eArgs fLen (aCons (eV 1) aNil)))) (sRet (eK (.bl false))) sNext) (sRet (eBin fEq (eComp (aRng rng1 (aCons (eArgs fLen (aCons (eV 1) aNil)) aNil)) (gN 2) (tNot' (toB (eCall self (aCons (eBin fIx (eV 0) (eV 2)) (aCons (eBin fIx (eV 1) (eV 2)) aNil))))) (eV 2) [2]) (eLst aNil))))) sNext) (sSeq (sIf (tOr' (toB (eUn isNonD (eV 1))) (toB (eUn isNonD (eV 0)))) (sRet (vAnd (eUn isNonD (eV 1)) (eUn isNonD (eV 0)))) sNext) (sSeq (sIf (tOr' (toB (eArgs fIsi (aCons (eV 1) (aCons (eK (.raw (.ty "bool"))) aNil)))) (toB (eArgs fIsi (aCons (eV 0) (aCons (eK (.raw (.ty "bool"))) aNil))))) (sRet (vAnd (eArgs fIsi (aCons (eV 1) (aCons (eK (.raw (.ty "bool"))) aNil))) (vAnd (eArgs fIsi (aCons (eV 0) (aCons (eK (.raw (.ty "bool"))) aNil))) (eBin fEq (eV 0) (eV 1))))) sNext) (sSeq (sIf (toB (eArgs fIsi (aCons (eV 1) (aCons (eK (.raw (.ty "str"))) aNil)))) (sRet (vAnd (eArgs fIsi (aCons (eV 0) (aCons (eK (.raw (.ty "str"))) aNil))) (eBin fEq (eV 0) (eV 1)))) sNext) (sRet (vAnd (eArgs fIsi (aCons (eV 0) (aCons (eK (.raw (.ty "int"))) aNil))) (eBin fEq (eV 0) (eV 1))))))))
def r__law_alike : Nat → FD
  | 0 => fun _ _ => .stuck
  | n + 1 => dDef false 2 3 (b__law_alike (r__law_alike n))
def d__law_alike : FD := r__law_alike 6
def b__law_way : SM := (sSeq (sSetO 4 (eLst aNil)) (sSeq (sFor (aRng rng1 (aCons (eV 1) aNil)) (gN 5) (sSeq (sSet 7 (eComp (aRng rng1 (aCons (eV 1) aNil)) (gN 6) (toB (eBin fNe (eV 6) (eV 5))) (eV 6) [6])) (sSeq (sSet 6 (eBin fIx (eV 7) (eCall d__law_taken (aCons (eV 0) (aCons (eArgs fLen (aCons (eV 7) aNil)) aNil))))) (sSeq (sIf (tOr' (tAnd' (toB (eBin fEq (eV 3) (eK (.int 1)))) (toB (eBin fEq (eCall d__law_taken (aCons (eV 0) (aCons (eK (.int 3)) aNil))) (eK (.int 0))))) (tAnd' (toB (eBin fEq (eV 3) (eK (.int 0)))) (toB (eBin fEq (eCall d__law_taken (aCons (eV 0) (aCons (eK (.int 8)) aNil))) (eK (.int 7)))))) (sSet 6 (eK .non)) sNext) (sSeq (sIf (tAnd' (toB (eBin fEq (eV 3) (eK (.int 2)))) (toB (eBin fGt (eCall d__law_taken (aCons (eV 0) (aCons (eK (.int 3)) aNil))) (eK (.int 0))))) (sSet 6 (eBin fMod (eBin fAdd (eV 5) (eK (.int 1))) (eV 1))) sNext) (sMut "list" 4 fAppend (aCons (eIf (toB (eBin fEq (eV 5) (eV 2))) (eK .non) (eV 6)) aNil))))))) (sRet (eTupO 4))))
def d__law_way : FD := dDef false 4 8 b__law_way
def b__law_web : SM := (sSeq (sSet 3 (eBin fAdd (eV 1) (eCall d__law_taken (aCons (eV 0) (aCons (eBin fAdd (eBin fSub (eV 2) (eV 1)) (eK (.int 1))) aNil))))) (sSeq (sSet 4 (eBin fIx (eLst (aCons (eK (.int 2)) (aCons (eK (.int 4)) (aCons (eK (.int 99)) aNil)))) (eCall d__law_taken (aCons (eV 0) (aCons (eK (.int 3)) aNil))))) (sSeq (sSet 5 (eComp (aRng rng2 (aCons (eK (.int 1)) (aCons (eV 3) aNil))) (gN 6) (toB (eBin fEq (eCall d__law_taken (aCons (eV 0) (aCons (eV 4) aNil))) (eK (.int 1)))) (eV 6) [6])) (sRet (eTup (aCons (eV 3) (aCons (eArgs fTuple (aCons (eV 5) aNil)) (aCons (eArgs fTuple (aCons (eComp (aRng rng2 (aCons (eK (.int 1)) (aCons (eV 3) aNil))) (gN 7) cYes (eCall d__law_way (aCons (eV 0) (aCons (eV 3) (aCons (eV 7) (aCons (eCall d__law_taken (aCons (eV 0) (aCons (eK (.int 3)) aNil))) aNil))))) [7]) aNil)) aNil))))))))
def d__law_web : FD := dDef false 3 8 b__law_web
def b__law_asked : SM := (sSeq (sAsg (eV 0) (gT 3 (gsCons (gN 3) (gsCons (gN 4) (gsCons (gN 5) gsNil))))) (sSeq (sSet 6 (eK (.int 0))) (sSeq (sWhile (tAnd' (toB (eBin fGt (eV 2) (eK (.int 0)))) (tAnd' (toB (eUn notNonD (eV 6))) (toB (eBin fNe (eV 6) (eV 1))))) (sSeq (sSet 6 (eBin fIx (eBin fIx (eV 5) (eBin fSub (eV 1) (eK (.int 1)))) (eV 6))) (sSet 2 (eBin fSub (eV 2) (eK (.int 1))))) 1000) (sSeq (sIf (tOr' (toB (eUn isNonD (eV 6))) (toB (eBin (fIn false) (eV 6) (eV 4)))) (sRet (eTup (aCons (eK (.str "nothing")) aNil))) sNext) (sRet (eIf (toB (eBin fEq (eV 6) (eV 1))) (eTup (aCons (eK (.str "there")) (aCons (eV 1) aNil))) (eTup (aCons (eK (.str "gone")) (aCons (eV 6) aNil)))))))))
def d__law_asked : FD := dDef false 3 7 b__law_asked
def b__law_answers : SM := (sRet (eComp (aRng rng2 (aCons (eK (.int 1)) (aCons (eBin fAdd (eV 2) (eK (.int 1))) aNil))) (gN 3) cYes (eCall d__law_asked (aCons (eV 0) (aCons (eV 1) (aCons (eV 3) aNil)))) [3]))
def d__law_answers : FD := dDef true 3 4 b__law_answers
def b__law_all_ways : SM := (sSeq (sSet 2 (eLst (aCons (eTup aNil) aNil))) (sSeq (sFor (aRng rng1 (aCons (eV 0) aNil)) (gN 3) (sSeq (sSet 4 (eBin fAdd (eLst (aCons (eK .non) aNil)) (eComp (aRng rng1 (aCons (eV 0) aNil)) (gN 7) (toB (eBin fNe (eV 7) (eV 3))) (eV 7) [7]))) (sSeq (sSetO 5 (eLst aNil)) (sSeq (sFor (aItems (eV 2)) (gN 6) (sMut "list" 5 fExtend (aCons (eComp (aItems (eIf (toB (eBin fEq (eV 3) (eV 1))) (eLst (aCons (eK .non) aNil)) (eV 4))) (gN 7) cYes (eBin fAdd (eV 6) (eTup (aCons (eV 7) aNil))) [7]) aNil))) (sSeq (sFrz 5) (sSet 2 (eV 5))))))) (sRet (eV 2))))
def d__law_all_ways : FD := dDef false 2 8 b__law_all_ways
def b__law_all_walks : SM := (sSeq (sSetO 2 (eLst aNil)) (sSeq (sSetO 3 (eLst (aCons (eTup (aCons (eTup (aCons (eK (.int 0)) aNil)) (aCons (eArgs fTuple (aCons (eBin fAdd (eBin fAdd (eBin fMul (eLst (aCons (eK (.str "?")) aNil)) (eV 1)) (eLst (aCons (eK .non) aNil))) (eBin fMul (eLst (aCons (eK (.str "?")) aNil)) (eBin fSub (eBin fSub (eV 0) (eV 1)) (eK (.int 1))))) aNil)) aNil))) aNil))) (sSeq (sWhile (tBor 3 (toB (eBin fNe (eV 3) (eLst aNil)))) (sSeq (sPopG 3 (gT 2 (gsCons (gN 4) (gsCons (gN 5) gsNil)))) (sSeq (sSet 6 (eBin fIx (eV 4) (eUn fNeg (eK (.int 1))))) (sFor (aItems (eBin fAdd (eLst (aCons (eK .non) aNil)) (eComp (aRng rng1 (aCons (eV 0) aNil)) (gN 9) (toB (eBin fNe (eV 9) (eV 6))) (eV 9) [9]))) (gN 7) (sSeq (sSet 8 (eBin fAdd (eBin fAdd (eSl (eV 5) pNone (pSome (eV 6))) (eTup (aCons (eV 7) aNil))) (eSl (eV 5) (pSome (eBin fAdd (eV 6) (eK (.int 1)))) pNone))) (sIf (tOr' (toB (eUn isNonD (eV 7))) (tOr' (toB (eBin fEq (eV 7) (eV 1))) (toB (eBin (fIn false) (eV 7) (eV 4))))) (sMut "list" 2 fAppend (aCons (eV 8) aNil)) (sMut "list" 3 fAppend (aCons (eTup (aCons (eBin fAdd (eV 4) (eTup (aCons (eV 7) aNil))) (aCons (eV 8) aNil))) aNil))))))) 100) (sRetV 2))))
def d__law_all_walks : FD := dDef true 2 10 b__law_all_walks
def b__law_some_ways : SM := (sRet (eIf (toB (eBin fLt (eV 0) (eK (.int 5)))) (eCall d__law_all_ways (aCons (eV 0) (aCons (eV 1) aNil))) (eCall d__law_all_walks (aCons (eV 0) (aCons (eV 1) aNil)))))
def d__law_some_ways : FD := dDef false 2 2 b__law_some_ways
def b__law_all_silent : SM := (sSeq (sSet 1 (eLst (aCons (eTup aNil) aNil))) (sSeq (sFor (aRng rng2 (aCons (eK (.int 1)) (aCons (eV 0) aNil))) (gN 2) (sSet 1 (eBin fAdd (eV 1) (eComp (aItems (eV 1)) (gN 3) cYes (eBin fAdd (eV 3) (eTup (aCons (eV 2) aNil))) [3])))) (sRet (eV 1))))
def d__law_all_silent : FD := dDef false 1 4 b__law_all_silent
def b__law_told : SM := (sSeq (sSet 4 (eArgs fLen (aCons (eV 1) aNil))) (sSeq (sSet 5 (eTup (aCons (eV 4) (aCons (eV 0) (aCons (eArgs fTuple (aCons (eBin fMul (eLst (aCons (eV 1) aNil)) (eBin fSub (eV 4) (eK (.int 1)))) aNil)) aNil))))) (sRet (eCall d__law_asked (aCons (eV 5) (aCons (eV 2) (aCons (eV 3) aNil)))))))
def d__law_told : FD := dDef false 4 6 b__law_told
def b__law_worlds : SM := (sSeq (sSet 1 (eBin fIx (eV 0) (eK (.int 0)))) (sSeq (sSetO 2 (eLst aNil)) (sSeq (sFor (aItems (eCall d__law_all_silent (aCons (eV 1) aNil))) (gN 3) (sSeq (sSetO 4 (eLst aNil)) (sSeq (sFor (aRng rng2 (aCons (eK (.int 1)) (aCons (eV 1) aNil))) (gN 5) (sSeq (sSet 6 (eCall d__law_answers (aCons (eV 0) (aCons (eV 5) (aCons (eBin fMul (eK (.int 2)) (eV 1)) aNil))))) (sSeq (sSetO 7 (eLst aNil)) (sSeq (sFor (aItems (eCall d__law_some_ways (aCons (eV 1) (aCons (eV 5) aNil)))) (gN 8) (sIf (toB (eBin fEq (eCall d__law_told (aCons (eV 3) (aCons (eV 8) (aCons (eV 5) (aCons (eK (.int 1)) aNil))))) (eBin fIx (eV 6) (eK (.int 0))))) (sIf (toB (eBin fEq (eComp (aRng rng1 (aCons (eBin fMul (eK (.int 2)) (eV 1)) aNil)) (gN 9) cYes (eCall d__law_told (aCons (eV 3) (aCons (eV 8) (aCons (eV 5) (aCons (eBin fAdd (eV 9) (eK (.int 1))) aNil))))) [9]) (eV 6))) (sMut "list" 7 fAppend (aCons (eV 8) aNil)) sNext) sNext)) (sSeq (sFrz 7) (sMut "list" 4 fAppend (aCons (eV 7) aNil))))))) (sIf (tBor 4 (toB (eBin fNotInN (eLst aNil) (eV 4)))) (sSeq (sFrz 4) (sMut "list" 2 fAppend (aCons (eTup (aCons (eV 3) (aCons (eV 4) aNil))) aNil))) sNext)))) (sRetV 2))))
def d__law_worlds : FD := dDef true 1 10 b__law_worlds
def b__law_is_web : SM := (sSeq (sIf (tOr' (tNot' (toB (eArgs fIsi (aCons (eV 0) (aCons (eK (.raw (.ty "tuple"))) aNil))))) (tOr' (toB (eBin fNe (eArgs fLen (aCons (eV 0) aNil)) (eK (.int 3)))) (tOr' (tNot' (toB (eArgs fIsi (aCons (eBin fIx (eV 0) (eK (.int 1))) (aCons (eK (.raw (.ty "tuple"))) aNil))))) (tNot' (toB (eArgs fIsi (aCons (eBin fIx (eV 0) (eK (.int 2))) (aCons (eK (.raw (.ty "tuple"))) aNil)))))))) (sRet (eK (.bl false))) sNext) (sSeq (sAsg (eV 0) (gT 3 (gsCons (gN 1) (gsCons (gN 2) (gsCons (gN 3) gsNil))))) (sSeq (sIf (tOr' (toB (eBin (fIn true) (eV 1) (eTup (aCons (eK (.int 2)) (aCons (eK (.int 3)) (aCons (eK (.int 4)) (aCons (eK (.int 5)) (aCons (eK (.int 6)) aNil)))))))) (toB (eBin fNe (eArgs fLen (aCons (eV 3) aNil)) (eBin fSub (eV 1) (eK (.int 1)))))) (sRet (eK (.bl false))) sNext) (sSeq (sIf (tOr' (toB (eBin fNe (eComp (aItems (eV 2)) (gN 4) (toB (eNotRg (eV 4) (eK (.int 1)) (eV 1))) (eV 4) [4]) (eLst aNil))) (toB (eBin fNe (eArgs fList (aCons (eV 2) aNil)) (eUn sortSet (eV 2))))) (sRet (eK (.bl false))) sNext) (sSeq (sFor (aRng rng2 (aCons (eK (.int 1)) (aCons (eV 1) aNil))) (gN 5) (sSeq (sSet 6 (eBin fIx (eV 3) (eBin fSub (eV 5) (eK (.int 1))))) (sSeq (sIf (tOr' (tNot' (toB (eArgs fIsi (aCons (eV 6) (aCons (eK (.raw (.ty "tuple"))) aNil))))) (tOr' (toB (eBin fNe (eArgs fLen (aCons (eV 6) aNil)) (eV 1))) (toB (eUn notNonD (eBin fIx (eV 6) (eV 5)))))) (sRet (eK (.bl false))) sNext) (sFor (aRng rng1 (aCons (eV 1) aNil)) (gN 4) (sIf (tAnd' (toB (eUn notNonD (eBin fIx (eV 6) (eV 4)))) (tOr' (toB (eNotRg1 (eBin fIx (eV 6) (eV 4)) (eV 1))) (toB (eBin fEq (eBin fIx (eV 6) (eV 4)) (eV 4))))) (sRet (eK (.bl false))) sNext))))) (sRet (eK (.bl true))))))))
def d__law_is_web : FD := dDef false 1 7 b__law_is_web
def b__law_known : SM := (sSeq (sSetO 2 (eLst aNil)) (sSeq (sFor (aRng rng1 (aCons (eBin fIx (eV 0) (eK (.int 0))) aNil)) (gN 3) (sFor (aRng rng2 (aCons (eK (.int 1)) (aCons (eBin fIx (eV 0) (eK (.int 0))) aNil))) (gN 4) (sSeq (sSetO 5 (eLst aNil)) (sSeq (sFor (aItems (eV 1)) (gT 2 (gsCons (gN 6) (gsCons (gN 7) gsNil))) (sMut "list" 5 fExtend (aCons (eComp (aItems (eBin fIx (eV 7) (eBin fSub (eV 4) (eK (.int 1))))) (gN 8) cYes (eBin fIx (eV 8) (eV 3)) [8]) aNil))) (sIf (tAnd' (toB (eBin fNe (eV 3) (eV 4))) (tAnd' (tBor 5 (toB (eBin (fIn true) (eK (.str "?")) (eV 5)))) (tBor 5 (toB (eBin fEq (eComp (aItems (eV 5)) (gN 9) (toB (eBin fNe (eV 9) (eBin fIx (eV 5) (eK (.int 0))))) (eV 9) [9]) (eLst aNil)))))) (sMut "list" 2 fAppend (aCons (eTup (aCons (eV 3) (aCons (eV 4) (aCons (eBor 5 (eBin fIx (eV 5) (eK (.int 0)))) aNil)))) aNil)) sNext))))) (sRetV 2)))
def d__law_known : FD := dDef true 2 10 b__law_known
def b__law_is_twin : SM := (sSeq (sIf (tOr' (tNot' (toB (eCall d__law_is_web (aCons (eV 1) aNil)))) (tOr' (toB (eBin fNe (eBin fIx (eV 1) (eK (.int 0))) (eBin fIx (eV 0) (eK (.int 0))))) (toB (eBin fEq (eBin fIx (eBin fIx (eBin fIx (eV 1) (eK (.int 2))) (eBin fSub (eV 3) (eK (.int 1)))) (eV 2)) (eBin fIx (eBin fIx (eBin fIx (eV 0) (eK (.int 2))) (eBin fSub (eV 3) (eK (.int 1)))) (eV 2)))))) (sRet (eK (.bl false))) sNext) (sSeq (sSet 4 (eBin fMul (eK (.int 2)) (eBin fIx (eV 0) (eK (.int 0))))) (sRet (eBin fEq (eComp (aRng rng2 (aCons (eK (.int 1)) (aCons (eBin fIx (eV 0) (eK (.int 0))) aNil))) (gN 5) (toB (eBin fNe (eCall d__law_answers (aCons (eV 0) (aCons (eV 5) (aCons (eV 4) aNil)))) (eCall d__law_answers (aCons (eV 1) (aCons (eV 5) (aCons (eV 4) aNil)))))) (eV 5) [5]) (eLst aNil)))))
def d__law_is_twin : FD := dDef false 4 6 b__law_is_twin
end HC
namespace K07
open PySem PySem.Spec L2 HD HC
open PyProof.Rows hiding St
def b_law : SM := (sSeq (sSet 2 (eCall d__law_web (aCons (eV 1) (aCons (eK (.int 2)) (aCons (eBin fIx (eLst (aCons (eK (.int 4)) (aCons (eK (.int 4)) (aCons (eK (.int 4)) (aCons (eK (.int 6)) aNil))))) (eCall d__law_taken (aCons (eV 1) (aCons (eK (.int 4)) aNil)))) aNil))))) (sSeq (sSet 3 (eCall d__law_known (aCons (eV 2) (aCons (eCall d__law_worlds (aCons (eV 2) aNil)) aNil)))) (sSeq (sFor (aRng rng1 (aCons (eK (.int 2)) aNil)) (gN 4) (sSeq (sSetO 5 (eCall d_known (aCons (eV 2) aNil))) (sSeq (sIf (tNot' (tBor 5 (toB (eCall d__law_alike (aCons (eV 5) (aCons (eV 3) aNil)))))) (sRet (eK (.bl false))) sNext) (sMut "list" 5 fAppend (aCons (eTup (aCons (eK (.int 0)) (aCons (eK (.int 1)) (aCons (eK .non) aNil)))) aNil))))) (sSeq (sFor (aRng rng1 (aCons (eBin fIx (eV 2) (eK (.int 0))) aNil)) (gN 6) (sFor (aRng rng2 (aCons (eK (.int 1)) (aCons (eBin fIx (eV 2) (eK (.int 0))) aNil))) (gN 7) (sIf (tAnd' (toB (eBin fNe (eV 6) (eV 7))) (tOr' (toB (eBin fLt (eBin fIx (eV 2) (eK (.int 0))) (eK (.int 5)))) (toB (eBin fEq (eCall d__law_taken (aCons (eV 1) (aCons (eK (.int 6)) aNil))) (eK (.int 5)))))) (sSeq (sSet 8 (eCall d_twin (aCons (eV 2) (aCons (eV 6) (aCons (eV 7) aNil))))) (sSeq (sIf (toB (eBin fNe (eUn isNonD (eV 8)) (eBin (fIn false) (eTup (aCons (eV 6) (aCons (eV 7) (aCons (eBin fIx (eBin fIx (eBin fIx (eV 2) (eK (.int 2))) (eBin fSub (eV 7) (eK (.int 1)))) (eV 6)) aNil)))) (eV 3)))) (sRet (eK (.bl false))) sNext) (sIf (tAnd' (toB (eUn notNonD (eV 8))) (tNot' (toB (eCall d__law_is_twin (aCons (eV 2) (aCons (eV 8) (aCons (eV 6) (aCons (eV 7) aNil)))))))) (sRet (eK (.bl false))) sNext))) sNext))) (sRet (eK (.bl true)))))))
end K07
end
section
/-! The data layer: sorted of whole numbers, [x] * n as a new list, own.append(own.pop(e)). -/
namespace HD
open PySem PySem.Spec L2
open PyProof.Rows hiding St
theorem le_uniq : ∀ {a b : List Int}, a.Pairwise (· ≤ ·) → b.Pairwise (· ≤ ·) → a.Perm b → a = b
  | [], b, _, _, h => (List.nil_perm.mp h).symm
  | x :: a, b, ha, hb, h => by
    cases b with
    | nil => exact absurd h.symm (by simp)
    | cons y b =>
      rw [List.pairwise_cons] at ha hb
      have e : x = y := by
        have h1 : x ∈ y :: b := h.mem_iff.mp List.mem_cons_self
        have h2 : y ∈ x :: a := h.mem_iff.mpr List.mem_cons_self
        rcases List.mem_cons.mp h1 with e | h1
        · exact e
        · rcases List.mem_cons.mp h2 with e | h2
          · exact e.symm
          · have := hb.1 x h1
            have := ha.1 y h2
            omega
      subst e
      rw [le_uniq ha.2 hb.2 (List.Perm.cons_inv h)]
def sortI (ns : List Int) : List Int := ns.mergeSort fun a b => decide (a ≤ b)
theorem sortI_perm (ns : List Int) : (sortI ns).Perm ns := List.mergeSort_perm _ _
theorem sortI_pw (ns : List Int) : (sortI ns).Pairwise (· ≤ ·) := by
  have := List.pairwise_mergeSort (le := fun a b : Int => decide (a ≤ b)) (fun a b c h1 h2 => by simp only [decide_eq_true_eq] at *; omega) (fun a b => by simp only [Bool.or_eq_true, decide_eq_true_eq]; omega) ns
  exact this.imp fun h => of_decide_eq_true h
def fSortI : List D → Option D
  | [.lst ds] => (toInts ds).map fun ns => .lst ((sortI ns).map .int)
  | _ => none
theorem a_sortI {K : PySem.W.Frag} : ArN K (rSortedI K) fSortI := by
  intro o G H ds vs d Q s r e
  unfold fSortI at e
  split at e
  case h_2 => cases e
  case h_1 xs =>
    obtain ⟨ns, e1, rfl⟩ := Option.map_eq_some_iff.mp e
    refine ⟨rfl, fun q => ?_⟩
    obtain ⟨v, rfl, r1⟩ := reps1 r
    unfold Rep at r1
    obtain ⟨a, us, rfl, a1, a2, a3⟩ := r1
    have ex := toInts_eq e1
    subst ex
    have := Reps.ints a3
    subst this
    refine ⟨a, ns, rfl, .of (s _ _ a1), fun ns' p hp hs h0 => ?_⟩
    have : ns' = sortI ns := le_uniq hs (sortI_pw ns) (hp.trans (sortI_perm ns).symm)
    subst this
    refine q p H _ (Same.refl _) h0 ⟨_, rfl, ?_, Reps.of_ints _⟩
    rw [List.length_map, (sortI_perm ns).length_eq]
    rw [List.length_map] at a2
    exact a2
section
variable {X : Cx} {W : WD} {own : Bool}
theorem do_bb {x : Str} {id : String} {e : Expr} {es : List Expr} {p pos : Pos} {r : List V → Hp → VK → Prop} {f : List D → Option D} {g : EM (List D)} (hc : CallR X (.builtin id) r) (h : ArN X.K r f) (hg : Gl X x) (hm : X.mg x = none) (hv : bootBuiltins x = some (.builtin id)) (ha : DA X W (e :: es) g)
    (hn : x ≠ "__name__" := by decide) (hdb : (x == ("__debug__" : Str)) = false := by decide) (he : starEach (e :: es) X.env = (false, eval e X.env) :: starEach es X.env := by rfl) (hpl : (backTo pos (starEach es X.env)).any (·.1) = false := by rfl) :
    DO X W (.Call (.Name x p) (e :: es) [] pos) (eArgs f g) := pe_imp (pe_callB hc hg hm hv ha hn hdb he hpl) (redN h)
theorem do_mul {a b : Expr} {pos : Pos} {ga gb : EM D} (ha : DE X W a ga) (hb : DE X W b gb) : DO X W (.BinOp a .Mult b pos) (eBin fMulL ga gb) := by
  refine pe_imp (pe_op op_rep ha hb) fun σ H Q hq => ?_
  obtain ⟨C, l, rw, G, S, hp⟩ := hq
  refine seqD (P := POq X.K W C l σ H G Q) S hp (fun _ _ z => z) (fun z => z) fun d1 rw1 v1 H1 G1 S1 s1 r1 h1 => ?_
  refine seqD (P := POq X.K W C l σ H G Q) S1 h1 (fun _ _ z => z) (fun z => z) fun d2 rw2 v2 H2 G2 S2 s2 r2 h2 => ?_
  dsimp only [POq] at h2
  cases d1 with
  | lst xs =>
    cases d2 with
    | int k =>
      unfold fMulL at h2
      by_cases hc : (-1000000000000 ≤ k ∧ k ≤ 1000000000000) ∧ xs.length * k.toNat ≤ sizeLine
      case neg => dsimp only at h2; rw [if_neg hc] at h2; exact h2.elim
      dsimp only at h2
      rw [if_pos hc] at h2
      have r1' := r1.mono s2.g
      unfold Rep at r1' r2
      obtain ⟨a, us, rfl, a1, a2, a3⟩ := r1'
      subst r2
      have hz : us.length * k.toNat ≤ sizeLine := by rw [← a3.length]; exact hc.2
      have rr : ∀ n : Nat, Reps X.K C.r G2 (List.replicate n xs).flatten (List.replicate n us).flatten := by
        intro n
        induction n with
        | zero => exact Reps.nil
        | succ n ih => rw [List.replicate_succ, List.replicate_succ, List.flatten_cons, List.flatten_cons]; exact a3.append ih
      have hlen : ((List.replicate k.toNat us).flatten).length ≤ sizeLine := by
        rw [List.length_flatten, List.map_replicate, List.sum_replicate_nat, Nat.mul_comm]; exact hz
      refine ⟨a, k, us, rfl, rfl, S2.sub _ _ a1, (small63' hc.1).1, (small63' hc.1).2, hz, fun p hp0 => ?_⟩
      refine h2 p _ G2 (S2.newO hp0) ((s1.trans s2).trans (Gr.newO S2.sub hp0)) ?_ (S2.ownNew hp0 ⟨_, rfl, hlen, rr _⟩ rfl)
      cases z : H p with
      | none => rfl
      | some o => obtain ⟨o', z2⟩ := (s1.trans s2).t _ _ z; rw [hp0] at z2; cases z2
    | _ => exact h2.elim
  | _ => cases d2 <;> exact h2.elim
/-- own.append(own2.pop(e)) -/
def sApPop (i j : Nat) (g : EM D) : SM := fun l rw => match l[i]?, l[j]? with
  | some (.own (.lst ds)), some (.own (.lst es)) => if i = j then .stuck else (g l rw).bind fun p => (match p.1 with
    | .int k => (match ixN es.length k with
      | some n => (match es[n]? with
        | some d => if ds.length < 100000 ∧ es.length < 100000 then .ok (.next, (l.set j (.own (.lst (es.eraseIdx n)))).set i (.own (.lst (ds ++ [d]))), p.2) else .stuck
        | none => .stuck)
      | none => .stuck)
    | _ => .stuck)
  | _, _ => .stuck
theorem ds_apPop {i j : Nat} {st : Stmt} {g : EM D} (h : PS X st (tDrop (tBM X.K "list" rAppend (tVar i) (tCons (tBM X.K "list" rPopAt (tVar j) (tCons (tD X.K W g) tNil)) tNil)))) : DS X W own st (sApPop i j g) := by
  refine ps_imp h fun E σ H hq => ?_
  obtain ⟨C, l, rw, G, S, hp⟩ := hq
  unfold sApPop at hp
  split at hp
  case h_2 => exact hp.elim
  case h_1 ds es ei ej =>
    by_cases hij : i = j
    · rw [if_pos hij] at hp; exact hp.elim
    rw [if_neg hij] at hp
    obtain ⟨p, p1, op⟩ := S.ownAt ei
    obtain ⟨p', pq, _, _, _, vs, b1, _, _⟩ := op
    cases pq
    obtain ⟨q, q1, oq⟩ := S.ownAt ej
    obtain ⟨q', qq, _, _, _, ws, c1, _, _⟩ := oq
    cases qq
    refine ⟨.ref p, p1, .inl ⟨rfl, _, .of b1⟩, .ref q, q1, .inl ⟨rfl, _, .of c1⟩, ?_⟩
    refine seqD (P := PSq X.K W own C E) S hp (fun x w z H' G' S' => z l σ H' G' S') (fun z => z) fun d1 rw1 v1 H1 G1 S1 s1 r1 h1 => ?_
    dsimp only [PSq] at h1
    cases d1 with
    | int k =>
      dsimp only at h1
      cases en : ixN es.length k with
      | none => rw [en] at h1; exact h1.elim
      | some n =>
        rw [en] at h1
        dsimp only at h1
        cases ed : es[n]? with
        | none => rw [ed] at h1; exact h1.elim
        | some d =>
          rw [ed] at h1
          dsimp only at h1
          by_cases hl : ds.length < 100000 ∧ es.length < 100000
          case neg => rw [if_neg hl] at h1; exact h1.elim
          rw [if_pos hl] at h1
          unfold Rep at r1
          subst r1
          obtain ⟨p2, p3, op⟩ := S1.ownAt ei
          rw [p1] at p3; cases p3
          obtain ⟨_, pq, hgp, _, _, vs, b1, b2, b3⟩ := op
          cases pq
          obtain ⟨q2, q3, oq⟩ := S1.ownAt ej
          rw [q1] at q3; cases q3
          obtain ⟨_, qq, hgq, _, _, ws, c1, c2, c3⟩ := oq
          cases qq
          obtain ⟨y, ey, ry⟩ := c3.get ed
          have hpq : p ≠ q := fun e => S1.ow i j _ _ p hij ei ej p1 (by rw [e]; exact q1)
          obtain ⟨x1, x2, x3, x4⟩ := ixN_seq en
          have hwl : es.length = ws.length := c3.length
          refine ⟨q, ws, k, n, y, rfl, rfl, c1, ?_, ?_, ?_, ey, ?_⟩
          · have := hl.2; omega
          · have := hl.2; omega
          · rw [← hwl]; exact x1
          have S2 := S1.mutAt (o' := .lst (ws.eraseIdx n)) ej q1 (d' := .lst (es.eraseIdx n)) rfl ⟨_, rfl, by have := List.length_eraseIdx_le ws n; omega, c3.eraseIdx n⟩
          have ei2 : (l.set j (.own (.lst (es.eraseIdx n))))[i]? = some (.own (.lst ds)) := by rw [List.getElem?_set_ne (fun z => hij z.symm)]; exact ei
          have hvl : ds.length = vs.length := b3.length
          refine ⟨p, vs, y, rfl, rfl, by rw [upd_ne hpq]; exact b1, by rw [sizeLine_eq]; omega, ?_⟩
          refine h1 σ _ G1 (S2.mutAt (o' := .lst (vs ++ [y])) ei2 p1 (d' := .lst (ds ++ [d])) rfl ⟨_, rfl, ?_, b3.append (Reps.cons ry Reps.nil)⟩)
          rw [List.length_append, List.length_singleton, sizeLine_eq]; omega
    | _ => exact h1.elim
end
end HD
end
section
/-! The data layer: the key x[:2] of a triple that begins with whole numbers. -/
namespace HD
open PySem PySem.Spec L2
open PyProof.Rows hiding St
def KH2 (K : PySem.W.Frag) (H : Hp) (v : V) (d : D) : Prop := ∃ (t : Addr) (a b : Int) (x : D) (u : V), v = .ref t ∧ d = .tup [.int a, .int b, x] ∧ SqT K H t [.int a, .int b, u]
def kf2 : D → PyData
  | .tup (.int a :: .int b :: _) => .tuple [.int a, .int b]
  | _ => .tuple [.int 0, .int 0]
def ok2 : D → Bool
  | .tup [.int _, .int _, _] => true
  | _ => false
theorem ok2_is {d : D} (h : ok2 d = true) : ∃ a b x, d = .tup [.int a, .int b, x] := by
  unfold ok2 at h
  split at h
  · exact ⟨_, _, _, rfl⟩
  · cases h
theorem key2 {X : Cx} {scope : Scope} {x : Str} {p1 p2 p3 p4 : Pos} {j : Nat} (hx : scope.names.lookup x = some .local) (hk : scope.kind = .function) (hd : (x == ("__debug__" : Str)) = false := by decide) :
    KeyR X (.Subscript (.Name x p1) (.Slice none (some (.Constant (.int 2) j p2)) none p3) p4) scope x (KH2 X.K) kf2 where
  stay := fun H H1 v d e ⟨t, a, b, y, u, h1, h2, h3⟩ => ⟨t, a, b, y, u, h1, h2, SqT.grown e h3⟩
  deep := fun H v d ⟨t, a, b, y, u, h1, h2, h3⟩ => by
    subst h2
    show PyData.depth (.tuple [.int a, .int b]) ≤ 8
    simp [PyData.depth, PyData.depthAll]
  body := by
    rintro pins s σ H v uv d I ru ⟨t, a, b, y, u, rfl, rfl, hq⟩ A L f c' s2 hns hk2 hA
    obtain rfl : uv = Value.ref t := ru
    obtain ⟨its, rv, pl, hz⟩ := I.tuple hq
    have pl2 : IsTup s2.heap t its.toArray := let ⟨o, e, c⟩ := pl; ⟨o, hk2 _ _ e, c⟩
    have hil : its.length = 3 := rv.length.symm
    obtain ⟨i0, i1, i2, rfl⟩ : ∃ i0 i1 i2, its = [i0, i1, i2] := by
      match its, hil with
      | [i0, i1, i2], _ => exact ⟨_, _, _, rfl⟩
    cases rv with
    | cons r0 rv =>
      cases rv with
      | cons r1 rv =>
        obtain ⟨t0, rfl⟩ := r0
        obtain ⟨t1, rfl⟩ := r1
        refine Subscript_ (wpAny_Name (wpAny_loadName_local (v := Value.ref t) hk hx hns ?_ ?_) hd)
        · show ([(x, Value.ref t)] : List (Str × Value)).reverse.lookup x = some (.ref t)
          simp [List.lookup]
        refine wpAny_Slice ?_
        rw [evalPart_none]
        refine wpAny_pure ?_
        rw [evalPart_some]
        refine wpAny_Constant_int ?_
        refine wpAny_pure ?_
        have T2 : (s2.heap.push { cls := Value.type "slice", data := Data.fields #[Value.none, Value.int 2 s2.toks, Value.none] }).IsSliceOf s2.heap.objs.size .none (.int 2 s2.toks) .none := Heap.IsSliceOf.new ..
        have pl3 : IsTup (s2.heap.push { cls := Value.type "slice", data := Data.fields #[Value.none, Value.int 2 s2.toks, Value.none] }) t #[Value.int a t0, Value.int b t1, i2] := let ⟨o, e, c⟩ := pl2; ⟨o, Heap.get?_push_of_some _ e, c⟩
        refine tail_any (T := "tuple") (ops := [.ref s2.heap.objs.size, .ref t]) (IsTup.typeIs pl3) PyProof.Rows.slot_tuple_getitem.lookup ?_ (by with_unfolding_all rfl)
        refine HT.getItem_tuple_cut (lo := none) (hi := some 2) pl3 T2 ?_ ?_ ?_ ?_ ?_
        · first | exact .none | exact IsPart.none | exact .inl ⟨rfl, rfl⟩ | (simp [IsPart])
        · first | exact .int _ _ | exact IsPart.int _ _ | exact ⟨_, rfl⟩ | (simp [IsPart])
        · show ¬ (HT.sIx 3 0 none = 0 ∧ HT.sIx 3 3 (some 2) = 3)
          decide
        · refine ⟨_, _, rfl, fun b o e => Heap.get?_push_of_some _ (Heap.get?_push_of_some _ e), ?_⟩
          show PySem.Reads _ _ (.tuple [.int a, .int b]) []
          refine .tuple (as := []) (Heap.get?_push_size _ rfl) rfl rfl ?_
          exact .cons (as := []) (bs := []) (.int _ _) (.cons (as := []) (bs := []) (.int _ _) .nil)
        · show 3 ≤ sizeLine; rw [sizeLine_eq]; decide
theorem reps3 {K : PySem.W.Frag} {o : Option Addr} {G : Hp} {d e f : D} {vs : List V} (r : Reps K o G [d, e, f] vs) : ∃ v u w, vs = [v, u, w] ∧ Rep K o G d v ∧ Rep K o G e u ∧ Rep K o G f w := by
  unfold Reps at r
  obtain ⟨v, t, rfl, r1, r2⟩ := r
  obtain ⟨u, w, rfl, r3, r4⟩ := reps2 r2
  exact ⟨v, u, w, rfl, r1, r3, r4⟩
theorem ok2_KH {K : PySem.W.Frag} (r : Option Addr) (G H : Hp) (d : D) (v : V) (s : Same G H) (rr : Rep K r G d v) (h : ok2 d = true) : KH2 K H v d := by
  obtain ⟨a, b, x, rfl⟩ := ok2_is h
  unfold Rep at rr
  obtain ⟨t, vs, rfl, a1, a2, a3⟩ := rr
  obtain ⟨v0, v1, v2, rfl, r0, r1, r2⟩ := reps3 a3
  unfold Rep at r0 r1
  subst r0 r1
  exact ⟨t, a, b, x, v2, rfl, rfl, Same.seqT s a1⟩
theorem ok2_alike (d e : D) (h : ok2 d = true) (h' : ok2 e = true) : PySem.W.alike (kf2 d) (kf2 e) = true := by
  obtain ⟨a, b, x, rfl⟩ := ok2_is h
  obtain ⟨c, f, y, rfl⟩ := ok2_is h'
  rfl
theorem ok2_sort (d : D) (h : ok2 d = true) : ∃ x r, kf2 d = .tuple (x :: r) := by
  obtain ⟨a, b, x, rfl⟩ := ok2_is h
  exact ⟨_, _, rfl⟩
section
variable {X : Cx} {W : WD}
theorem do_sortKey2 {e : Expr} {params : Arguments} {scope : Scope} {x nm : Str} {p pos lpos kpos p1 p2 p3 p4 : Pos} {g : EM (List D)} {j i : Nat} {c P : Addr} (hr : Room j X.A) (hg : Gl X "sorted") (hm : X.mg "sorted" = none) (hml : X.mg "len" = none) (ha : DA X W [e] g)
    (T : LamT X.K X.mg X.base nm c P) (hq : X.env.qual = nm ++ (".<locals>." : Str)) (hcode : X.env.code = .ref c) (hdef : defaultsOf params X.env = ([], [])) (L : KScope scope x) (hl : scope.kind = .function)
    (hbind : ∀ (q : Str) (pm cv ctv u : Value), bindArgs (PySem.W.kla_fn "<lambda>" q params (.Subscript (.Name x p1) (.Slice none (some (.Constant (.int 2) i p2)) none p3) p4) scope [] pm cv ctv) ⟨[u], []⟩ = pure [(x, u)]) (hd : (x == ("__debug__" : Str)) = false := by decide)
    (he : backTo pos (starEach [e] X.env) = (false, eval e X.env) :: backTo pos (starEach [] X.env) := by rfl) (hpl : (backTo pos (starEach [e] X.env)).any (·.1) = false := by rfl) :
    DO X W (.Call (.Name "sorted" p) [e] [⟨some (Str.ofString "key"), .Lambda params (.Subscript (.Name x p1) (.Slice none (some (.Constant (.int 2) i p2)) none p3) p4) scope lpos, kpos⟩] pos) (eArgs (sortKeyD kf2 ok2) g) :=
  pe_imp (pe_sortKey (key2 L.loc L.kind hd) hr hg hm ha T.tb hcode (by rw [hq]; exact T.mem) (by rw [hq]; exact T.uni) hdef L hbind (he := he) (hpl := hpl)) (redSortKey ok2_KH ok2_alike ok2_sort)
end
end HD
end
section
/-! The data layer: a law whose own body makes lambdas. -/
namespace HD
open PySem PySem.Spec L2
open PyProof.Rows hiding St
section
variable {P : Program} {w : World} {K : PySem.W.Frag} {mg : Str → Option Value} {base : Heap} {f : Addr} {fd : FuncData}
theorem law_okC {st : Stmt} {N : List Str} {x : Str} {s0 : Stmt} {rest : List Stmt} {den : SM} {k : Nat} (F : FunD K "law" "law" (defArgs st) (defBody st) (defScope st) [] [] f fd) (S : FnScope N [x] (defScope st)) (hbody : defBody st = s0 :: rest)
    (hN : 2 ≤ N.length)
    {c : Addr} (hc : fd.code = .ref c) (h0 : ∀ (A : Around) (outer : List Env) (s : Shared) (H : Hp) (E : XK), PS (cxOf CXF P w K mg base N "law" (defScope st) f (.ref c) A outer s H E).nox s0 (tAsg (tLst (tCons (tVar 0) (tCons (tC (.int 0)) (tCons (tC (.int 0)) tNil)))) (gName 1)))
    (hb : ∀ (A : Around) (outer : List Env) (s : Shared) (H : Hp) (E : XK), Room k (A.deeper (envOfC "law" (defScope st) s.heap.objs.size f (.ref c))) → DSs (cxOf CXF P w K mg base N "law" (defScope st) f (.ref c) A outer s H E).nox W0 false rest den)
    (hp : ∀ ns : List Int, ns.length ≤ 63 → ∃ l' rw', den (.val (.scr ns) :: .val .row :: List.replicate (N.length - 2) .no) (some ⟨ns, 0, 0⟩) = .ok (.ret (.bl true), l', rw')) :
    FnOk P w K mg base CXF (k + 1) f fd [x] (spL K) := by
  obtain ⟨oc, od, dV, kV, doc, pm, an, cdv, ct, osl, rfl, lk, hcd, _, _⟩ := F.ex
  obtain rfl : cdv = .ref c := hc
  refine fn_of lk hcd S (fun vs H Q E h => by obtain ⟨a, ns, rfl, _⟩ := h; rfl) fun A outer s H vs Q E hr h => ?_
  obtain ⟨a, ns, rfl, hS, hT, hl, hQ⟩ := h
  rw [hbody]
  refine ⟨_, PSs.nox (pss_locked (pss_cons (h0 A outer s H E) (hb A outer s H E hr))), ?_⟩
  have hst : start N [V.ref a] = some (.ref a) :: none :: List.replicate (N.length - 2) none := by
    unfold L2.start
    show [some (V.ref a)] ++ List.replicate (N.length - 1) none = _
    obtain ⟨m, hm⟩ : ∃ m, N.length = m + 2 := ⟨N.length - 2, by omega⟩
    rw [hm]
    rfl
  rw [hst]
  have hl' : ns.length ≤ sizeLine := by rw [sizeLine_eq]; omega
  have core : ∀ H1 G1 : Hp, Same G1 H1 → (∀ a o, G1 a = some o → nTb o) → LamX.Tabs (tabT K) H1 → (∀ o, Rep K o G1 (.scr ns) (.ref a)) →
      tSeq (tAsg (tLst (tCons (tVar 0) (tCons (tC (.int 0)) (tCons (tC (.int 0)) tNil)))) (gName 1)) (tS K W0 false den) { nx := fun _ H' => Q .non H', rt := Q } (some (.ref a) :: none :: List.replicate (N.length - 2) none) H1 := by
    intro H1 G1 sub gt1 hT1 hr1
    refine ⟨.ref a, rfl, by show 3 ≤ sizeLine; rw [sizeLine_eq]; decide, fun p hp0 => ?_⟩
    obtain ⟨l', rw', e⟩ := hp ns hl
    have hg0 : G1 p = none := by
      cases q : G1 p with
      | none => rfl
      | some o => have := sub _ _ q; rw [hp0] at this; cases this
    have hH : Same H1 (upd H1 p (.lst [.ref a, .int 0, .int 0])) := fun b u e => by rw [upd_ne (ne_of_none e hp0)]; exact e
    refine ⟨⟨some p, H1, G1⟩, .val (.scr ns) :: .val .row :: List.replicate (N.length - 2) .no, some ⟨ns, 0, 0⟩, G1, ⟨sub.trans hH, fun b o e _ _ => hH b o e, fun b o e => ⟨o, hH b o e⟩, TabR.new hp0 hT1, Same.refl _, fun b o e => .inl e, gt1, ?_, fun i x hi => ?_, fun i j d e q hij hi hj _ => ?_, ?_⟩, ?_⟩
    · simp
    · match i, hi with
      | 0, hi =>
        cases hi
        exact ⟨some (.ref a), rfl, .ref a, rfl, hr1 _⟩
      | 1, hi =>
        cases hi
        exact ⟨some (.ref p), rfl, .ref p, rfl, by unfold Rep; exact ⟨p, rfl, rfl⟩⟩
      | i + 2, hi =>
        have hi : (List.replicate (N.length - 2) Sl.no)[i]? = some x := hi
        rw [List.getElem?_replicate] at hi
        split at hi
        · rename_i hlt
          cases hi
          refine ⟨none, ?_, trivial⟩
          show (List.replicate (N.length - 2) (none : Option V))[i]? = some none
          rw [List.getElem?_replicate, if_pos hlt]
        · cases hi
    · match i, hi with
      | 0, hi => cases hi
      | 1, hi => cases hi
      | i + 2, hi =>
        have hi : (List.replicate (N.length - 2) Sl.no)[i]? = some (.own d) := hi
        rw [List.getElem?_replicate] at hi
        split at hi <;> cases hi
    · exact ⟨hg0, .ref a, upd_same, hr1 _⟩
    · rw [e]
      intro v σ' H' G' S' rr
      unfold RetRep at rr
      rw [if_neg Bool.false_ne_true] at rr
      unfold Rep at rr
      subst rr
      exact hQ H'
  rcases hS with (hS | ⟨ob, hS⟩) | hS
  · refine .inr ⟨a, _, hS, trivial, fun od => ?_⟩
    refine core _ (fun b => if b = a then some (.frz od (.lst (ns.map V.int))) else none) (fun b u e => ?_) (fun b u e => ?_) ((TabR.put fun u e => by rw [hS] at e; cases e; exact nTE_lst) hT) fun o => ?_
    · dsimp only at e
      by_cases hb : b = a
      · subst hb; rw [if_pos rfl] at e; rw [upd_same]; exact e
      · rw [if_neg hb] at e; cases e
    · by_cases hb : b = a
      · rw [if_pos hb] at e; cases e; exact fun _ z => nomatch z
      · rw [if_neg hb] at e; cases e
    · unfold Rep
      exact ⟨a, rfl, .inl ⟨od, if_pos rfl⟩, hl'⟩
  · refine .inl (core H (fun b => if b = a then H a else none) (fun b u e => ?_) (fun b u e => ?_) hT fun o => ?_)
    · dsimp only at e
      by_cases hb : b = a
      · subst hb; rw [if_pos rfl] at e; exact e
      · rw [if_neg hb] at e; cases e
    · by_cases hb : b = a
      · rw [if_pos hb, hS] at e; cases e; exact fun _ z => nomatch z
      · rw [if_neg hb] at e; cases e
    · unfold Rep
      exact ⟨a, rfl, .inl ⟨ob, by rw [if_pos rfl]; exact hS⟩, hl'⟩
  · refine .inl (core H (fun _ => none) (fun b u e => by cases e) (fun b u e => by cases e) hT fun o => ?_)
    unfold Rep
    exact ⟨a, rfl, .inr (.inr hS), hl'⟩
end
end HD
end
section
/-! The data layer: a new tuple or list whose lists are new too. -/
namespace HD
open PySem PySem.Spec L2
open PyProof.Rows hiding St
/-- a value; if it is a list, a new one -/
def NewV (K : PySem.W.Frag) (r : Option Addr) (H0 H G : Hp) (d : D) (v : V) : Prop := match d with
  | .lst ds => ∃ p vs, v = .ref p ∧ H0 p = none ∧ G p = none ∧ r ≠ some p ∧ H p = some (.lst vs) ∧ vs.length ≤ sizeLine ∧ Reps K r G ds vs
  | e => Rep K r G e v
def NewVs (K : PySem.W.Frag) (r : Option Addr) (H0 H G : Hp) : List D → List V → Prop
  | [], vs => vs = []
  | d :: ds, vs => ∃ v t, vs = v :: t ∧ NewV K r H0 H G d v ∧ NewVs K r H0 H G ds t
def Deep (K : PySem.W.Frag) (r : Option Addr) (H0 H G : Hp) (d : D) (v : V) : Prop := match d with
  | .lst ds => ∃ p vs, v = .ref p ∧ H0 p = none ∧ G p = none ∧ r ≠ some p ∧ H p = some (.lst vs) ∧ vs.length ≤ sizeLine ∧ NewVs K r H0 H G ds vs
  | .tup ds => ∃ p vs, v = .ref p ∧ H0 p = none ∧ G p = none ∧ r ≠ some p ∧ H p = some (.tup vs) ∧ vs.length ≤ sizeLine ∧ NewVs K r H0 H G ds vs
  | _ => False
section
variable {K : PySem.W.Frag} {r : Option Addr} {H0 H G H' G' : Hp}
theorem Gr.keepN (g : Gr K r H G H' G') {p : Addr} {o : HO} (hr : r ≠ some p) (h : H p = some o) (nt : nTb o) (hg : G p = none) : H' p = some o ∧ G' p = none := by
  refine ⟨g.h _ _ h hr nt, ?_⟩
  cases q : G' p with
  | none => rfl
  | some u =>
    rcases g.n p u q with z | ⟨z, _⟩
    · rw [hg] at z; cases z
    · rw [h] at z; cases z
theorem NewV.grow (g : Gr K r H G H' G') {d : D} {v : V} (h : NewV K r H0 H G d v) : NewV K r H0 H' G' d v := by
  cases d with
  | lst ds =>
    obtain ⟨p, vs, a1, a2, a3, a4, a5, a6, a7⟩ := h
    obtain ⟨b1, b2⟩ := g.keepN a4 a5 nTb_lst a3
    exact ⟨p, vs, a1, a2, b2, a4, b1, a6, a7.mono g.g⟩
  | _ => exact Rep.mono g.g h
theorem NewVs.grow (g : Gr K r H G H' G') : ∀ {ds : List D} {vs : List V}, NewVs K r H0 H G ds vs → NewVs K r H0 H' G' ds vs
  | [], _, h => h
  | d :: ds, _, h => by
    obtain ⟨v, t, e, h1, h2⟩ := h
    exact ⟨v, t, e, h1.grow g, h2.grow g⟩
theorem NewVs.length : ∀ {ds : List D} {vs : List V}, NewVs K r H0 H G ds vs → ds.length = vs.length
  | [], _, h => by cases h; rfl
  | d :: ds, _, h => by
    obtain ⟨v, t, rfl, h1, h2⟩ := h
    rw [List.length_cons, List.length_cons, h2.length]
theorem NewV.back {H1 : Hp} (t : ∀ a o, H1 a = some o → ∃ o', H0 a = some o') {d : D} {v : V} (h : NewV K r H0 H G d v) : NewV K r H1 H G d v := by
  cases d with
  | lst ds =>
    obtain ⟨p, vs, a1, a2, a⟩ := h
    refine ⟨p, vs, a1, ?_, a⟩
    cases q : H1 p with
    | none => rfl
    | some o => obtain ⟨o', z⟩ := t p o q; rw [a2] at z; cases z
  | _ => exact h
theorem NewVs.back {H1 : Hp} (t : ∀ a o, H1 a = some o → ∃ o', H0 a = some o') : ∀ {ds : List D} {vs : List V}, NewVs K r H0 H G ds vs → NewVs K r H1 H G ds vs
  | [], _, h => h
  | d :: ds, _, h => by
    obtain ⟨v, u, e, h1, h2⟩ := h
    exact ⟨v, u, e, h1.back t, h2.back t⟩
theorem Deep.back {H1 : Hp} (t : ∀ a o, H1 a = some o → ∃ o', H0 a = some o') {d : D} {v : V} (h : Deep K r H0 H G d v) : Deep K r H1 H G d v := by
  have key : ∀ p, H0 p = none → H1 p = none := fun p a2 => by
    cases q : H1 p with
    | none => rfl
    | some o => obtain ⟨o', z⟩ := t p o q; rw [a2] at z; cases z
  cases d with
  | lst ds => obtain ⟨p, vs, a1, a2, a3, a4, a5, a6, a7⟩ := h; exact ⟨p, vs, a1, key p a2, a3, a4, a5, a6, a7.back t⟩
  | tup ds => obtain ⟨p, vs, a1, a2, a3, a4, a5, a6, a7⟩ := h; exact ⟨p, vs, a1, key p a2, a3, a4, a5, a6, a7.back t⟩
  | _ => exact h.elim
theorem NewVs.append : ∀ {ds es : List D} {vs us : List V}, NewVs K r H0 H G ds vs → NewVs K r H0 H G es us → NewVs K r H0 H G (ds ++ es) (vs ++ us)
  | [], _, _, _, h, t => by cases h; exact t
  | d :: ds, es, _, us, h, t => by
    obtain ⟨v, w, rfl, h1, h2⟩ := h
    exact ⟨v, w ++ us, rfl, h1, h2.append t⟩
/-- all that is new is shown -/
noncomputable def showN (H0 H G : Hp) : Hp := fun a => match G a with
  | some o => some o
  | none => match H0 a with
    | some _ => none
    | none => match H a with
      | some (.tbl _) => none
      | x => x
theorem showN_g {a : Addr} {o : HO} (h : G a = some o) : showN H0 H G a = some o := by unfold showN; rw [h]
theorem showN_is {a : Addr} {o : HO} (h : showN H0 H G a = some o) : G a = some o ∨ (G a = none ∧ H0 a = none ∧ H a = some o ∧ nTb o) := by
  unfold showN at h
  cases q : G a with
  | some u => rw [q] at h; cases h; exact .inl rfl
  | none =>
    rw [q] at h
    cases q2 : H0 a with
    | some u => rw [q2] at h; cases h
    | none =>
      rw [q2] at h
      cases q3 : H a with
      | none => rw [q3] at h; cases h
      | some u =>
        rw [q3] at h
        cases u <;> first | (cases h; exact .inr ⟨rfl, rfl, rfl, fun _ z => nomatch z⟩) | (cases h)
theorem showN_new {a : Addr} {o : HO} (h1 : G a = none) (h2 : H0 a = none) (h3 : H a = some o) (nt : nTb o) : showN H0 H G a = some o := by
  unfold showN
  rw [h1, h2, h3]
  cases o <;> first | rfl | exact absurd rfl (nt _)
theorem showN_mono : Same G (showN H0 H G) := fun a o e => showN_g e
theorem NewV.show {d : D} {v : V} (h : NewV K r H0 H G d v) : Rep K r (showN H0 H G) d v := by
  cases d with
  | lst ds =>
    obtain ⟨p, vs, a1, a2, a3, a4, a5, a6, a7⟩ := h
    unfold Rep
    exact ⟨p, vs, a1, showN_new a3 a2 a5 nTb_lst, a6, a7.mono showN_mono⟩
  | _ => exact Rep.mono showN_mono h
theorem NewVs.show : ∀ {ds : List D} {vs : List V}, NewVs K r H0 H G ds vs → Reps K r (showN H0 H G) ds vs
  | [], _, h => by cases h; exact Reps.nil
  | d :: ds, _, h => by
    obtain ⟨v, t, rfl, h1, h2⟩ := h
    exact Reps.cons h1.show h2.show
theorem Deep.show {d : D} {v : V} (h : Deep K r H0 H G d v) : Rep K r (showN H0 H G) d v := by
  cases d with
  | lst ds =>
    obtain ⟨p, vs, a1, a2, a3, a4, a5, a6, a7⟩ := h
    unfold Rep
    exact ⟨p, vs, a1, showN_new a3 a2 a5 nTb_lst, a6, a7.show⟩
  | tup ds =>
    obtain ⟨p, vs, a1, a2, a3, a4, a5, a6, a7⟩ := h
    unfold Rep
    exact ⟨p, vs, a1, SqT.of (showN_new a3 a2 a5 fun _ z => nomatch z), a6, a7.show⟩
  | _ => exact h.elim
end
section
variable {K : PySem.W.Frag} {C : C0} {l : Dl} {rw rw' : Rw} {σ : St} {H G H' G' : Hp}
theorem Gr.showN (g : Gr K C.r H G H' G') : Gr K C.r H G H' (showN H H' G') := by
  refine ⟨g.h, g.g.trans showN_mono, fun a o e => ?_, fun a o e => ?_, g.t, g.tb⟩
  · rcases showN_is e with z | ⟨_, z1, _, z2⟩
    · exact g.n a o z
    · exact .inr ⟨z1, z2⟩
  · rcases showN_is e with z | ⟨_, _, z, _⟩
    · exact g.s a o z
    · exact z
theorem SR.showN (S : SR K C l rw σ H G) (S' : SR K C l rw' σ H' G') (g : Gr K C.r H G H' G') : SR K C l rw' σ H' (showN H H' G') := by
  refine S.grow g.showN ?_
  have w := S'.row
  have w0 := S.row
  unfold RowOk at w w0 ⊢
  cases e : C.r with
  | none => rw [e] at w; cases rw' <;> exact w
  | some a =>
    rw [e] at w w0
    cases rw' with
    | none => exact w
    | some x =>
      obtain ⟨w1, v, w2, w3⟩ := w
      refine ⟨?_, v, w2, w3.mono showN_mono⟩
      cases q : HD.showN H H' G' a with
      | none => rfl
      | some o =>
        rcases showN_is q with z | ⟨_, z, _⟩
        · rw [w1] at z; cases z
        · cases rw with
          | none => exact w0.elim
          | some y => obtain ⟨_, v', w4, _⟩ := w0; rw [z] at w4; cases w4
/-! ### new things are forgotten -/
def isFrz : HO → Bool
  | .frz _ _ => true
  | _ => false
noncomputable def oldN (G G' : Hp) : Hp := fun a => match G a with
  | some o => some o
  | none => match G' a with
    | some o => if isFrz o = true then some o else none
    | none => none
theorem oldN_is {a : Addr} {o : HO} (h : oldN G G' a = some o) : G a = some o ∨ (G a = none ∧ G' a = some o ∧ isFrz o = true) := by
  unfold oldN at h
  cases q : G a with
  | some u => rw [q] at h; cases h; exact .inl rfl
  | none =>
    rw [q] at h
    cases q2 : G' a with
    | none => rw [q2] at h; cases h
    | some u =>
      rw [q2] at h
      dsimp only at h
      split at h
      · cases h; rename_i e; exact .inr ⟨rfl, rfl, e⟩
      · cases h
theorem oldN_mono : Same G (oldN G G') := fun a o e => by unfold oldN; rw [e]
/-- l' and σ' are l and σ but at places that are forgotten -/
structure LikeS (l l' : Dl) (σ σ' : St) : Prop where
  len : l'.length = l.length
  lens : σ'.length = σ.length
  at_ : ∀ (i : Nat) x, l'[i]? = some x → x = .no ∨ (l[i]? = some x ∧ σ'[i]? = σ[i]?)
theorem SR.rest {C3 : C0} {l3 l' : Dl} {rw3 : Rw} {σ3 σ' : St} {H3 G3 H4 : Hp} (S : SR K C l rw σ H G) (S3 : SR K C3 l3 rw3 σ3 H3 G3) (hr : C3.r = C.r) (g : Gr K C.r H G H3 G3) (L : LikeS l l' σ σ')
    (k1 : ∀ a o, H a = some o → H4 a = H3 a) (k2 : ∀ a o, H3 a = some o → isFrz o = true → H4 a = some o) (k3 : ∀ a o, H3 a = some o → ∃ o', H4 a = some o') (kt : TabR K H3 H4) : SR K C l' rw3 σ' H4 (oldN G G3) := by
  have sub : Same (oldN G G3) H4 := fun a o e => by
    rcases oldN_is e with z | ⟨_, z1, z2⟩
    · rw [k1 a o (S.sub a o z)]; exact g.s a o (g.g a o z)
    · exact k2 a o (g.s a o z1) z2
  refine ⟨sub, fun a o e ne nt => ?_, fun a o e => ?_, kt S3.tabs, S.g0.trans oldN_mono, fun a o e => ?_, fun a o e => ?_, ?_, fun i x e => ?_, fun i j d e p hij hi hj h1 => ?_, ?_⟩
  · have e1 := S.fr a o e ne nt
    rw [k1 a o e1]
    exact g.h a o e1 ne nt
  · obtain ⟨o1, e1⟩ := S.ft a o e
    obtain ⟨o2, e2⟩ := g.t a o1 e1
    exact k3 a o2 e2
  · rcases oldN_is e with z | ⟨z0, z1, _⟩
    · exact S.gn a o z
    · rcases g.n a o z1 with z | ⟨z, _⟩
      · rw [z0] at z; cases z
      · cases q : C.H0 a with
        | none => exact .inr rfl
        | some u => obtain ⟨u', e'⟩ := S.ft a u q; rw [z] at e'; cases e'
  · rcases oldN_is e with z | ⟨_, _, z⟩
    · exact S.gt a o z
    · cases o with
      | tbl _ => cases z
      | _ => exact fun _ z => nomatch z
  · rw [L.lens, S.len, L.len]
  · rcases L.at_ i x e with rfl | ⟨e1, e2⟩
    · have hi : i < σ'.length := by rw [L.lens, S.len, ← L.len]; exact (List.getElem?_eq_some_iff.mp e).1
      exact ⟨σ'[i], List.getElem?_eq_getElem hi, trivial⟩
    · obtain ⟨v, e3, e4⟩ := S.sl i x e1
      refine ⟨v, e2.trans e3, ?_⟩
      cases x with
      | no => trivial
      | val d => obtain ⟨u, a1, a2⟩ := e4; exact ⟨u, a1, a2.mono oldN_mono⟩
      | own d =>
        obtain ⟨u, a1, p, rfl, b2, b3, b4, b5⟩ := e4
        have hk : ∀ o, H p = some o → nTb o → H4 p = some o := fun o ho nt => by rw [k1 p o ho]; exact g.h p o ho b4 nt
        have hn : ∀ o, H p = some o → oldN G G3 p = none := fun o ho => by
          cases q : oldN G G3 p with
          | none => rfl
          | some u =>
            rcases oldN_is q with z | ⟨_, z, _⟩
            · rw [b2] at z; cases z
            · rcases g.n p u z with y | ⟨y, _⟩
              · rw [b2] at y; cases y
              · rw [ho] at y; cases y
        refine ⟨.ref p, a1, p, rfl, ?_, b3, b4, ?_⟩
        · cases d with
          | lst ds => obtain ⟨vs, c1, _⟩ := b5; exact hn _ c1
          | dic ks ds => obtain ⟨kvs, vs, c1, _⟩ := b5; exact hn _ c1
          | _ => exact b5.elim
        · cases d with
          | lst ds => obtain ⟨vs, c1, c2, c3⟩ := b5; exact ⟨vs, hk _ c1 nTb_lst, c2, c3.mono oldN_mono⟩
          | dic ks ds => obtain ⟨kvs, vs, c1, c2, c3, c4, c5⟩ := b5; exact ⟨kvs, vs, hk _ c1 nTb_dK, c2, c3, c4, c5.mono oldN_mono⟩
          | _ => exact b5.elim
  · rcases L.at_ i _ hi with z | ⟨e1, e2⟩
    · cases z
    · rcases L.at_ j _ hj with z | ⟨e3, e4⟩
      · cases z
      · rw [e4]; exact S.ow i j d e p hij e1 e3 (e2 ▸ h1)
  · have w := S3.row
    have w0 := S.row
    rw [hr] at w
    unfold RowOk at w w0 ⊢
    cases e : C.r with
    | none => rw [e] at w; cases rw3 <;> exact w
    | some a =>
      rw [e] at w w0
      cases rw3 with
      | none => exact w
      | some x =>
        obtain ⟨w1, v, w2, w3⟩ := w
        cases rw with
        | none => exact w0.elim
        | some y =>
          obtain ⟨w4, v', w5, w6⟩ := w0
          refine ⟨?_, v, by rw [k1 a _ w5]; exact w2, ?_⟩
          · cases q : oldN G G3 a with
            | none => rfl
            | some o =>
              rcases oldN_is q with z | ⟨_, z, _⟩
              · rw [w4] at z; cases z
              · rw [w1] at z; cases z
          · unfold Rep at w3 ⊢
            obtain ⟨b, c1, c2, c3⟩ := w3
            refine ⟨b, c1, c2.imp (fun ⟨o, z⟩ => ⟨o, ?_⟩) id, c3⟩
            unfold oldN
            cases q : G b with
            | some u => exact (g.g b u q).symm.trans z
            | none => rw [z]; rfl
end
/-! ### readings of new things -/
def NPost (K : PySem.W.Frag) (C : C0) (l : Dl) (σ : St) (H G : Hp) (q : R (D × Rw)) (Q : VK) : Prop :=
  match q with
  | .ok (d, rw') => ∀ v H' G', SR K C l rw' σ H' G' → Gr K C.r H G H' G' → Deep K C.r H H' G' d v → Q v H'
  | _ => False
def tN (K : PySem.W.Frag) (g : EM D) : TE := fun σ H Q => ∃ C l rw G, SR K C l rw σ H G ∧ NPost K C l σ H G (g l rw) Q
def NAPost (K : PySem.W.Frag) (C : C0) (l : Dl) (σ : St) (H G : Hp) (q : R (List D × Rw)) (Q : List V → Hp → Prop) : Prop :=
  match q with
  | .ok (ds, rw') => ∀ vs H' G', SR K C l rw' σ H' G' → Gr K C.r H G H' G' → NewVs K C.r H H' G' ds vs → Q vs H'
  | _ => False
def tNA (K : PySem.W.Frag) (g : EM (List D)) : TA := fun σ H Q => ∃ C l rw G, SR K C l rw σ H G ∧ NAPost K C l σ H G (g l rw) Q
/-- .. of a def's statements -/
def NSPost (K : PySem.W.Frag) (C : C0) (q : R (Fl × Dl × Rw)) (E : Ends) : Prop :=
  match q with
  | .ok (.next, l', rw') => ∀ σ' H' G', SR K C l' rw' σ' H' G' → E.nx σ' H'
  | .ok (.ret d, l', rw') => ∀ v σ' H' G', SR K C l' rw' σ' H' G' → Deep K C.r C.H0 H' G' d v → E.rt v H'
  | _ => False
def tNS (K : PySem.W.Frag) (g : SM) : TS := fun E σ H => ∃ C l rw G, SR K C l rw σ H G ∧ NSPost K C (g l rw) E
abbrev NE (X : Cx) (e : Expr) (g : EM D) : Prop := PE X e (tN X.K g)
abbrev NA (X : Cx) (es : List Expr) (g : EM (List D)) : Prop := PA X es (tNA X.K g)
abbrev NS (X : Cx) (st : Stmt) (g : SM) : Prop := PS X st (tNS X.K g)
abbrev NSs (X : Cx) (st : List Stmt) (g : SM) : Prop := PSs X st (tNS X.K g)
def noLst (g : EM D) : EM D := fun l rw => (g l rw).bind fun p => if isLD p.1 = true then .stuck else .ok p
def noRet (g : SM) : SM := fun l rw => match g l rw with
  | .ok (.next, p) => .ok (.next, p)
  | _ => .stuck
section
variable {X : Cx}
theorem na_nil : NA X [] aNil := by
  refine pa_imp pa_nil fun σ H Q hq => ?_
  obtain ⟨C, l, rw, G, S, hp⟩ := hq
  exact hp [] H G S (Gr.refl S.sub) rfl
theorem newV_of {K : PySem.W.Frag} {r : Option Addr} {H0 H G : Hp} {d : D} {v : V} (h : isLD d = false) (q : Rep K r G d v) : NewV K r H0 H G d v := by
  cases d with
  | lst ds => cases h
  | _ => exact q
theorem na_consD {e : Expr} {es : List Expr} {g : EM D} {r : EM (List D)} (ha : DE X W0 e g) (hr : NA X es r) (hs : starEach (e :: es) X.env = (false, eval e X.env) :: starEach es X.env := by rfl) : NA X (e :: es) (aCons (noLst g) r) := by
  refine pa_imp (pa_cons ha hr hs) fun σ H Q hq => ?_
  obtain ⟨C, l, rw, G, S, hp⟩ := hq
  unfold aCons noLst at hp
  refine ⟨C, l, rw, G, S, ?_⟩
  cases e1 : g l rw with
  | exc x w => rw [e1] at hp; exact hp.elim
  | stuck => rw [e1] at hp; exact hp.elim
  | ok p =>
    obtain ⟨d, rw1⟩ := p
    rw [e1] at hp
    intro v1 H1 G1 S1 s1 r1
    refine ⟨C, l, rw1, G1, S1, ?_⟩
    by_cases hd : isLD d = true
    · simp only [R.bind, if_pos hd] at hp; exact hp.elim
    · simp only [R.bind, if_neg hd] at hp
      cases e2 : r l rw1 with
      | exc x w => rw [e2] at hp; exact hp.elim
      | stuck => rw [e2] at hp; exact hp.elim
      | ok q =>
        obtain ⟨ds, rw2⟩ := q
        rw [e2] at hp
        exact fun vs H2 G2 S2 s2 r2 => hp (v1 :: vs) H2 G2 S2 (s1.trans s2) ⟨v1, vs, rfl, (newV_of (Bool.eq_false_iff.mpr hd) r1).grow s2, r2.back s1.t⟩
def onlyLst (g : EM D) : EM D := fun l rw => (g l rw).bind fun p => match p.1 with
  | .lst _ => .ok p
  | _ => .stuck
theorem na_consO {e : Expr} {es : List Expr} {g : EM D} {r : EM (List D)} (ha : DO X W0 e g) (hr : NA X es r) (hs : starEach (e :: es) X.env = (false, eval e X.env) :: starEach es X.env := by rfl) : NA X (e :: es) (aCons (onlyLst g) r) := by
  refine pa_imp (pa_cons ha hr hs) fun σ H Q hq => ?_
  obtain ⟨C, l, rw, G, S, hp⟩ := hq
  unfold aCons onlyLst at hp
  refine ⟨C, l, rw, G, S, ?_⟩
  cases e1 : g l rw with
  | exc x w => rw [e1] at hp; exact hp.elim
  | stuck => rw [e1] at hp; exact hp.elim
  | ok p =>
    obtain ⟨d, rw1⟩ := p
    rw [e1] at hp
    intro q1 H1 G1 S1 s1 f1 r1
    refine ⟨C, l, rw1, G1, S1, ?_⟩
    cases d with
    | lst xs =>
      simp only [R.bind] at hp
      obtain ⟨q', e', h1, h2, h3, vs1, h4, h5, h6⟩ := r1
      cases e'
      cases e2 : r l rw1 with
      | exc x w => rw [e2] at hp; exact hp.elim
      | stuck => rw [e2] at hp; exact hp.elim
      | ok q =>
        obtain ⟨ds, rw2⟩ := q
        rw [e2] at hp
        exact fun vs H2 G2 S2 s2 r2 => hp (.ref q1 :: vs) H2 G2 S2 (s1.trans s2) ⟨.ref q1, vs, rfl, NewV.grow s2 (d := .lst xs) ⟨q1, vs1, rfl, f1, h1, h3, h4, h5, h6⟩, r2.back s1.t⟩
    | _ => simp only [R.bind] at hp; exact hp.elim
theorem gr_fresh {K : PySem.W.Frag} {r : Option Addr} {H G H1 G1 : Hp} (g : Gr K r H G H1 G1) {p : Addr} (h : H1 p = none) : H p = none := by
  cases z : H p with
  | none => rfl
  | some o => obtain ⟨o', z2⟩ := g.t _ _ z; rw [h] at z2; cases z2
/-- [a, b, ..] -/
theorem ne_lst {es : List Expr} {g : EM (List D)} {pos : Pos} (h : NA X es g) : NE X (.List es pos) (eLst g) := by
  refine pe_imp (pe_lst h) fun σ H Q hq => ?_
  obtain ⟨C, l, rw, G, S, hp⟩ := hq
  unfold eLst eArgs at hp
  refine ⟨C, l, rw, G, S, ?_⟩
  cases e1 : g l rw with
  | exc x w => rw [e1] at hp; exact hp.elim
  | stuck => rw [e1] at hp; exact hp.elim
  | ok p =>
    obtain ⟨ds, rw1⟩ := p
    rw [e1] at hp
    intro vs H1 G1 S1 s1 r1
    have hl := r1.length
    by_cases hz : ds.length ≤ sizeLine
    · simp only [R.bind, if_pos hz] at hp
      refine ⟨by rw [← hl]; exact hz, fun p hp0 => ?_⟩
      have g2 : Gr X.K C.r H1 G1 (upd H1 p (.lst vs)) G1 := Gr.newO S1.sub hp0
      obtain ⟨h0, hr⟩ := S1.h0none hp0
      exact hp (.ref p) _ _ (S1.newO hp0) (s1.trans g2) ⟨p, vs, rfl, gr_fresh s1 hp0, S1.gnone hp0, hr, upd_same, by rw [← hl]; exact hz, r1.grow g2⟩
    · simp only [R.bind, if_neg hz] at hp; exact hp.elim
/-- a call of a def that hands back new things -/
def FPostN (K : PySem.W.Frag) (r : Option Addr) (H G : Hp) (q : R (D × Rw)) (Q : VK) : Prop :=
  match q with
  | .ok (d, rw') => ∀ v H' G', Gr K r H G H' G' → RowT K r rw' H' G' → Deep K r H H' G' d v → Q v H'
  | _ => False
def spN (K : PySem.W.Frag) (F : FD) : Sp := fun vs H Q E => ∃ r G ds rw, Same G H ∧ Reps K r G ds vs ∧ RowT K r rw H G ∧ FPostN K r H G (F ds rw) Q
theorem ne_call {F : FD} {g : EM (List D)} {k : Nat} {f : Addr} {fd : FuncData} {ps : List Str} {x : Str} {p pos : Pos} {e : Expr} {es : List Expr} (Fo : FnOk X.prog X.w X.K X.mg X.base CXF k f fd ps (spN X.K F)) (hr : Room k X.A) (hg : Gl X x) (hm : X.mg x = some (.ref f)) (hk : PySem.W.keepIn X.K (.ref f) = true) (hb : Binds X.K fd ps [])
    (ha : DA X W0 (e :: es) g) (hdb : (x == ("__debug__" : Str)) = false := by decide) (he : starEach (e :: es) X.env = (false, eval e X.env) :: starEach es X.env := by rfl) (hpl : (backTo pos (starEach es X.env)).any (·.1) = false := by rfl) :
    NE X (.Call (.Name x p) (e :: es) [] pos) (eCall F g) := by
  refine pe_imp (pe_call Fo hr hg hm hk hb .nil (E := fun _ _ _ => False) (fun _ _ _ _ _ _ _ h => h.elim) ha hdb he hpl) fun σ H Q hq => ?_
  obtain ⟨C, l, rw, G, S, hp⟩ := hq
  unfold eCall at hp
  refine ⟨C, l, rw, G, S, ?_⟩
  cases e1 : g l rw with
  | exc x w => rw [e1] at hp; exact hp.elim
  | stuck => rw [e1] at hp; exact hp.elim
  | ok p =>
    obtain ⟨ds, rw1⟩ := p
    rw [e1] at hp
    intro vs H1 G1 S1 s1 r1
    refine ⟨C.r, G1, ds, rw1, S1.sub, by rw [List.append_nil]; exact r1, ⟨S1.tabs, S1.row, S1.gt⟩, ?_⟩
    simp only [R.bind] at hp
    cases e2 : F ds rw1 with
    | exc x w => rw [e2] at hp; exact hp.elim
    | stuck => rw [e2] at hp; exact hp.elim
    | ok q =>
      obtain ⟨d, rw2⟩ := q
      rw [e2] at hp
      exact fun v H2 G2 g2 w2 dd => hp v H2 G2 (S1.grow g2 w2.w) (s1.trans g2) (dd.back s1.t)
/-- what the head tells of such a def -/
structure CalN (P : Program) (w : World) (K : PySem.W.Frag) (mg : Str → Option Value) (base : Heap) (x : Str) (k : Nat) (ps : List Str) (F : FD) : Prop where
  ex : ∃ (a : Addr) (fd : FuncData), FnOk P w K mg base CXF k a fd ps (spN K F) ∧ mg x = some (.ref a) ∧ PySem.W.keepIn K (.ref a) = true ∧ Binds K fd ps []
theorem CalN.ne {F : FD} {g : EM (List D)} {k : Nat} {ps : List Str} {x : Str} {p pos : Pos} {e : Expr} {es : List Expr} (C : CalN X.prog X.w X.K X.mg X.base x k ps F) (hr : Room k X.A) (hg : Gl X x) (ha : DA X W0 (e :: es) g) (hdb : (x == ("__debug__" : Str)) = false := by decide) (he : starEach (e :: es) X.env = (false, eval e X.env) :: starEach es X.env := by rfl) (hpl : (backTo pos (starEach es X.env)).any (·.1) = false := by rfl) :
    NE X (.Call (.Name x p) (e :: es) [] pos) (eCall F g) := by
  obtain ⟨a, fd, Fo, hm, hk, hb⟩ := C.ex
  exact ne_call Fo hr hg hm hk hb ha hdb he hpl
/-! ### statements -/
theorem nss_nil : NSs X [] sNext := pss_imp pss_nil fun E σ H ⟨C, l, rw, G, S, hp⟩ => hp σ H G S
theorem nss_one {st : Stmt} {f : SM} (h1 : NS X st f) : NSs X [st] f := pss_one h1
theorem nss_cons {st : Stmt} {r : List Stmt} {f g : SM} (h1 : NS X st f) (h2 : NSs X r g) : NSs X (st :: r) (sSeq f g) := by
  refine pss_imp (pss_cons h1 h2) fun E σ H hq => ?_
  obtain ⟨C, l, rw, G, S, hp⟩ := hq
  refine ⟨C, l, rw, G, S, ?_⟩
  unfold sSeq at hp
  cases e : f l rw with
  | exc x w => rw [e] at hp; exact hp
  | stuck => rw [e] at hp; exact hp
  | ok p =>
    obtain ⟨fl, l', rw'⟩ := p
    rw [e] at hp
    cases fl with
    | next => exact fun σ' H' G' S' => ⟨C, l', rw', G', S', hp⟩
    | ret d => exact hp
    | brk => exact hp
    | cont => exact hp
theorem ns_of {st : Stmt} {f : SM} (h : DS X W0 false st f) : NS X st (noRet f) := by
  refine ps_imp h fun E σ H hq => ?_
  obtain ⟨C, l, rw, G, S, hp⟩ := hq
  refine ⟨C, l, rw, G, S, ?_⟩
  unfold noRet at hp
  cases e : f l rw with
  | exc x w => rw [e] at hp; exact hp.elim
  | stuck => rw [e] at hp; exact hp.elim
  | ok p =>
    obtain ⟨fl, l', rw'⟩ := p
    rw [e] at hp
    cases fl with
    | next => exact hp
    | ret d => exact hp.elim
    | brk => exact hp.elim
    | cont => exact hp.elim
theorem ns_if {c : Expr} {a b : List Stmt} {gc : EM Bool} {f g : SM} {pos : Pos} (hc : DT X W0 c gc) (ha : NSs X a f) (hb : NSs X b g) : NS X (.If c a b pos) (sIf gc f g) := by
  refine ps_imp (ps_if hc ha hb) fun E σ H hq => ?_
  obtain ⟨C, l, rw, G, S, hp⟩ := hq
  unfold sIf at hp
  refine ⟨C, l, rw, G, S, ?_⟩
  cases e : gc l rw with
  | exc x w => rw [e] at hp; exact hp.elim
  | stuck => rw [e] at hp; exact hp.elim
  | ok p =>
    obtain ⟨b, rw1⟩ := p
    rw [e] at hp
    intro H1 G1 S1 s1
    cases b with
    | true => exact iteT ⟨C, l, rw1, G1, S1, hp⟩
    | false => exact iteF ⟨C, l, rw1, G1, S1, hp⟩
theorem ns_ret {e : Expr} {g : EM D} {pos : Pos} (h : NE X e g) : NS X (.Return (some e) pos) (sRet g) := by
  refine ps_imp (ps_ret h) fun E σ H hq => ?_
  obtain ⟨C, l, rw, G, S, hp⟩ := hq
  unfold sRet at hp
  refine ⟨C, l, rw, G, S, ?_⟩
  cases e : g l rw with
  | exc x w => rw [e] at hp; exact hp.elim
  | stuck => rw [e] at hp; exact hp.elim
  | ok p =>
    obtain ⟨d, rw1⟩ := p
    rw [e] at hp
    exact fun v H1 G1 S1 s1 dd => hp v σ H1 G1 S1 (dd.back S.ft)
/-- return (own name, new list) -/
def sRetT2 (i : Nat) (g : EM D) : SM := fun l rw => match l[i]? with
  | some (.own (.lst ds)) => (g l rw).bind fun p => (match p.1 with
    | .lst es => .ok (.ret (.tup [.lst ds, .lst es]), l, p.2)
    | _ => .stuck)
  | _ => .stuck
theorem ns_retT2 {i : Nat} {a e : Expr} {k : Nat} {g : EM D} {pos pos' : Pos} (ha : PE X a (tVar i)) (h : DO X W0 e g) (hs : starEach [a, e] X.env = (false, eval a X.env) :: starEach [e] X.env := by rfl) (hs2 : starEach [e] X.env = (false, eval e X.env) :: starEach [] X.env := by rfl) : NS X (.Return (some (.Tuple [a, e] k pos')) pos) (sRetT2 i g) := by
  refine ps_imp (ps_ret (pe_tup (pa_cons ha (pa_cons h pa_nil hs2) hs))) fun E σ H hq => ?_
  obtain ⟨C, l, rw, G, S, hp⟩ := hq
  unfold sRetT2 at hp
  split at hp
  case h_2 => exact hp.elim
  case h_1 ds ei =>
    obtain ⟨p, p1, ow⟩ := S.ownAt ei
    refine ⟨.ref p, p1, C, l, rw, G, S, ?_⟩
    cases e : g l rw with
    | exc x w => rw [e] at hp; exact hp.elim
    | stuck => rw [e] at hp; exact hp.elim
    | ok q =>
      obtain ⟨d, rw1⟩ := q
      rw [e] at hp
      intro q H1 G1 S1 s1 f1 o1
      cases d with
      | lst es =>
        refine ⟨sl_big2, fun t ht => ?_⟩
        have g2 : Gr X.K C.r H1 G1 (upd H1 t (.tup [.ref p, .ref q])) G1 := Gr.newO S1.sub ht
        obtain ⟨h0, hr⟩ := S1.h0none ht
        obtain ⟨p', ep, a1, a2, a3, vs, a4, a5, a6⟩ := ow.grow (s1.trans g2)
        cases ep
        obtain ⟨q', eq, b1, b2, b3, us, b4, b5, b6⟩ := o1.grow g2
        cases eq
        exact hp (.ref t) σ _ _ (S1.newO ht) ⟨t, _, rfl, h0, S1.gnone ht, hr, upd_same, sl_big2, .ref p, _, rfl, ⟨p, vs, rfl, a2, a1, a3, a4, a5, a6⟩, .ref q, _, rfl, ⟨q, us, rfl, b2, b1, b3, b4, b5, b6⟩, rfl⟩
      | _ => exact hp.elim
where sl_big2 : 2 ≤ sizeLine := by rw [sizeLine_eq]; decide
/-! ### defs -/
def dDefN (n m : Nat) (body : SM) : FD := dDef true n m body
end
section
variable {P : Program} {w : World} {K : PySem.W.Frag} {mg : Str → Option Value} {base : Heap}
theorem spN_start {n : Nat} {N : List Str} {den : SM} {vs : List V} {H : Hp} {Q : VK} {E : XK} {t : TS} (ht : ∀ (E' : Ends) σ H', tNS K den E' σ H' → t E' σ H') (h : spN K (dDefN n N.length den) vs H Q E) : t { nx := fun _ H' => Q .non H', rt := Q } (start N vs) H := by
  obtain ⟨r, G, ds, rw, s, q, wr, hp⟩ := h
  unfold dDefN dDef at hp
  by_cases hn : ds.length = n
  case neg => rw [if_neg hn] at hp; exact hp.elim
  rw [if_pos hn] at hp
  refine ht _ _ _ ⟨⟨r, H, G⟩, _, rw, G, SR.start s q wr hn, ?_⟩
  cases e : den (ds.map .val ++ List.replicate (N.length - n) .no) rw with
  | stuck => rw [e] at hp; exact hp.elim
  | exc x w => rw [e] at hp; exact hp.elim
  | ok p =>
    obtain ⟨fl, l', rw'⟩ := p
    rw [e] at hp
    cases fl with
    | brk => exact hp.elim
    | cont => exact hp.elim
    | ret d => exact fun v σ' H' G' S' dd => hp v H' G' (S'.gr wr) ⟨S'.tabs, S'.row, S'.gt⟩ dd
    | next => exact hp.elim
theorem spN_len {n m : Nat} {den : SM} {vs : List V} {H : Hp} {Q : VK} {E : XK} (h : spN K (dDefN n m den) vs H Q E) : vs.length = n := by
  obtain ⟨r, G, ds, rw, s, q, wr, hp⟩ := h
  rw [← q.length]
  unfold dDefN dDef at hp
  by_cases hn : ds.length = n
  · exact hn
  · rw [if_neg hn] at hp; exact hp.elim
theorem calN_of {x : Str} {st : Stmt} {N ps : List Str} {k : Nat} {den : SM} (F : FnF K mg x st ps) (S : FnScope N ps (defScope st))
    (hb : ∀ (f : Addr) (cdv : Value) (A : Around) (outer : List Env) (s : Shared) (H : Hp) (E : XK), Room k (A.deeper (envOfC x (defScope st) s.heap.objs.size f cdv)) → NSs (cxOf CXF P w K mg base N x (defScope st) f cdv A outer s H E).nox (defBody st) den) :
    CalN P w K mg base x (k + 1) ps (dDefN ps.length N.length den) := by
  obtain ⟨a, fd, F, g, b⟩ := F
  exact ⟨a, fd, F.ok S (fun vs H Q E h => spN_len h) fun cdv A outer s H vs Q E hr h => ⟨_, PSs.nox (hb a cdv A outer s H E hr), spN_start (fun _ _ _ z => z) h⟩, g, F.kp, b⟩
end
end HD
end
section
/-! The data layer: told = f(..); if not ..: return False; the lists that were told are changed; told is forgotten. -/
namespace HD
open PySem PySem.Spec L2
open PyProof.Rows hiding St
section
variable {K : PySem.W.Frag} {C : C0} {l : Dl} {rw rw' : Rw} {σ : St} {H G H' G' : Hp}
theorem LikeS.one {l : Dl} {σ : St} (i : Nat) (v : Option V) : LikeS l (l.set i .no) σ (σ.set i v) := by
  refine ⟨by rw [List.length_set], by rw [List.length_set], fun j x e => ?_⟩
  by_cases h : i = j
  · subst h
    rw [List.getElem?_set] at e
    simp at e
    exact .inl e.2.symm
  · rw [List.getElem?_set_ne h] at e
    exact .inr ⟨e, by rw [List.getElem?_set_ne h]⟩
end
section
variable {X : Cx}
/-- what of a told thing is forgotten -/
def sTold2 (i : Nat) (g : EM D) (c : EM Bool) : SM := fun l rw => (noX (g l rw)).bind fun p => match p.1 with
  | .tup [.lst a, .lst b] => (c (l.set i (.val (.tup [.lst a, .lst b]))) p.2).bind fun q => if q.1 = true then .ok (.ret (.bl false), l.set i (.val (.tup [.lst a, .lst b])), q.2) else if (a.length < 100000 ∧ b.length < 100000) ∧ i < l.length then .ok (.next, l.set i .no, q.2) else .stuck
  | _ => .stuck
theorem dss_told2 {i : Nat} {x : Str} {e c : Expr} {g : EM D} {gc : EM Bool} {pos pos' p2 p3 m1 m2 m3 m4 m5 m6 n1 n2 n3 n4 n5 n6 : Pos} {q1 q2 q3 : Pos} {j1 j2 j3 k1 k2 : Nat} (hN : X.N.Nodup) (hi : X.N[i]? = some x) (hx : Loc X.env.scope x) (he : NE X e g) (hc : DT X W0 c gc)
    (hm1 : PS X (.Expr (.Call (.Attribute (.Subscript (.Name x m1) (.Constant (.int 0) j1 m2) m3) "append" m4) [.Constant (.int 7) j2 m5] [] m6) n1) (tDrop (tBM X.K "list" rAppend (tOp (rIx X.K) (tVar i) (tC (.int 0))) (tCons (tC (.int 7)) tNil))))
    (hm2 : PS X (.Expr (.Call (.Attribute (.Subscript (.Name x n2) (.Constant (.int 1) k1 n3) n4) "append" n5) [.Constant (.int 7) k2 n6] [] p2) p3) (tDrop (tBM X.K "list" rAppend (tOp (rIx X.K) (tVar i) (tC (.int 1))) (tCons (tC (.int 7)) tNil))))
    (hs : swapsWith e (some (.Name x pos')) pos.line X.env = pure false := by rfl) (hf : X.fn x = true ∨ X.env.scope.names.lookup x = some .local := by first | exact .inl rfl | exact .inr rfl | assumption) :
    DSs X W0 false [.Assign [.Name x pos'] e pos, .If c [.Return (some (.Constant (.bool false) j3 q1)) q2] [] q3,
      .Expr (.Call (.Attribute (.Subscript (.Name x m1) (.Constant (.int 0) j1 m2) m3) "append" m4) [.Constant (.int 7) j2 m5] [] m6) n1,
      .Expr (.Call (.Attribute (.Subscript (.Name x n2) (.Constant (.int 1) k1 n3) n4) "append" n5) [.Constant (.int 7) k2 n6] [] p2) p3] (sTold2 i g gc) := by
  refine pss_imp (pss_cons (ps_set hN hi hx he hs hf) (pss_cons (ps_if hc (dss_one (ds_ret (W := W0) de_bl)) pss_nil) (pss_cons hm1 (pss_cons hm2 pss_nil)))) fun E σ H hq => ?_
  obtain ⟨C, l, rw, G, S, hp⟩ := hq
  unfold sTold2 at hp
  refine ⟨C, l, rw, G, S, ?_⟩
  cases e1 : g l rw with
  | exc x w => rw [e1] at hp; exact hp.elim
  | stuck => rw [e1] at hp; exact hp.elim
  | ok p =>
    obtain ⟨d, rw1⟩ := p
    rw [e1] at hp
    simp only [noX, R.bind] at hp
    intro v H1 G1 S1 s1 dd
    split at hp
    case h_2 => exact hp.elim
    case h_1 xs ys =>
      have s2 := s1.showN
      have S2 := (S.showN S1 s1).setV (i := i) dd.show
      obtain ⟨t, us, rfl, t1, t2, t3, t4, t5, u1, us', rfl, w1, u2, us'', e', w2, e''⟩ := dd
      cases e''
      cases e'
      obtain ⟨p, vs, rfl, p1, p2, p3, p4, p5, p6⟩ := w1
      obtain ⟨q, ws, rfl, q1, q2, q3, q4, q5, q6⟩ := w2
      refine ⟨C, l.set i (.val (.tup [.lst xs, .lst ys])), rw1, _, S2, ?_⟩
      cases e2 : gc (l.set i (.val (.tup [.lst xs, .lst ys]))) rw1 with
      | exc x w => rw [e2] at hp; exact fun H' G' S' => hp _ _ _ _ S'
      | stuck => rw [e2] at hp; exact hp.elim
      | ok z =>
        obtain ⟨b, rw3⟩ := z
        rw [e2] at hp
        intro H3 G3 S3 s3
        have g3 := s2.trans s3
        cases b with
        | true =>
          refine iteT ⟨C, _, rw3, G3, S3, ?_⟩
          simp only [R.bind, if_true] at hp
          exact hp
        | false =>
          simp only [R.bind, Bool.false_eq_true, if_false] at hp
          refine iteF ?_
          by_cases hz : (xs.length < 100000 ∧ ys.length < 100000) ∧ i < l.length
          case neg => rw [if_neg hz] at hp; exact hp.elim
          rw [if_pos hz] at hp
          have hlx := p6.length
          have hly := q6.length
          have hi' : i < σ.length := by rw [S.len]; exact hz.2
          have et : (σ.set i (some (.ref t)))[i]? = some (some (.ref t)) := by rw [List.getElem?_set, if_pos rfl, if_pos hi']
          have t3' : H3 t = some (.tup [.ref p, .ref q]) := s3.h _ _ t4 t3 fun _ z => nomatch z
          have p3' : H3 p = some (.lst vs) := s3.h _ _ p4 p3 nTb_lst
          have q3' : H3 q = some (.lst ws) := s3.h _ _ q4 q3 nTb_lst
          have np : t ≠ p := fun z => by rw [z, p3'] at t3'; cases t3'
          have nq : t ≠ q := fun z => by rw [z, q3'] at t3'; cases t3'
          have lx : vs.length < sizeLine := by rw [sizeLine_eq]; omega
          have ly : ∀ k, k < 100001 → k < sizeLine := fun k hk => by rw [sizeLine_eq]; omega
          refine ⟨.ref t, et, .inr (.inl ⟨t, [.ref p, .ref q], 0, .ref p, rfl, rfl, SqT.of t3', atI_nat (j := 0) rfl, ?_⟩)⟩
          refine ⟨.inl ⟨rfl, _, .of p3'⟩, p, vs, .int 7, rfl, rfl, p3', lx, ?_⟩
          have t4' : upd H3 p (.lst (vs ++ [.int 7])) t = some (.tup [.ref p, .ref q]) := by rw [upd_ne np]; exact t3'
          refine ⟨.ref t, et, .inr (.inl ⟨t, [.ref p, .ref q], 1, .ref q, rfl, rfl, SqT.of t4', atI_nat (j := 1) rfl, ?_⟩)⟩
          obtain ⟨ws', q4', lq⟩ : ∃ ws', upd H3 p (.lst (vs ++ [.int 7])) q = some (.lst ws') ∧ ws'.length < 100001 := by
            by_cases h : q = p
            · subst h
              exact ⟨_, upd_same, by rw [List.length_append, List.length_singleton]; omega⟩
            · exact ⟨ws, by rw [upd_ne h]; exact q3', by omega⟩
          refine ⟨.inl ⟨rfl, _, .of q4'⟩, q, ws', .int 7, rfl, rfl, q4', ly _ lq, ?_⟩
          have kp : ∀ a, a ≠ p → a ≠ q → upd (upd H3 p (.lst (vs ++ [.int 7]))) q (.lst (ws' ++ [.int 7])) a = H3 a := fun a h1 h2 => by rw [upd_ne h2, upd_ne h1]
          have ne1 : ∀ a o, H a = some o → a ≠ p ∧ a ≠ q := fun a o e => ⟨fun z => (by rw [z, p1] at e; cases e), fun z => (by rw [z, q1] at e; cases e)⟩
          refine hp _ _ _ (S.rest S3 rfl g3 (LikeS.one i _) (fun a o e => kp a (ne1 a o e).1 (ne1 a o e).2) (fun a o e f => ?_) (fun a o e => ?_) ?_)
          · rw [kp a (fun z => by rw [z, p3'] at e; cases e; cases f) (fun z => by rw [z, q3'] at e; cases e; cases f)]
            exact e
          · by_cases h2 : a = q
            · subst h2; exact ⟨_, upd_same⟩
            · by_cases h1 : a = p
              · subst h1; exact ⟨_, by rw [upd_ne h2]; exact upd_same⟩
              · exact ⟨o, by rw [kp a h1 h2]; exact e⟩
          · exact (TabR.put fun u e => by rw [p3'] at e; cases e; exact nTE_lst).trans (TabR.put fun u e => by rw [q4'] at e; cases e; exact nTE_lst)
end
end HD
end
section
namespace HC
end HC
namespace HC
open PySem PySem.Spec L2 HD HC
open PyProof.Rows hiding St

end HC
namespace K08
open PySem PySem.Spec L2 HD HC
open PyProof.Rows hiding St
def b_quiet : SM := (sSeq (noRet (sExpr (eCall d_need_web (aCons (eV 0) aNil)))) (sSeq (noRet (sSet 1 (eComp (aItems (eCall d_all_worlds (aCons (eV 0) aNil))) (gT 2 (gsCons (gN 4) (gsCons (gN 5) gsNil))) cYes (eV 4) [4, 5]))) (sSeq (noRet (sSetO 2 (eComp (aRng rng1 (aCons (eBin fIx (eV 0) (eK (.int 0))) aNil)) (gN 6) (toB (eBin fEq (eComp (aItems (eV 1)) (gN 4) (toB (eBin (fIn true) (eV 6) (eV 4))) (eV 4) [4]) (eLst aNil))) (eV 6) [6]))) (sSeq (noRet (sSet 3 (eComp (aRng rng1 (aCons (eBin fIx (eV 0) (eK (.int 0))) aNil)) (gN 6) (toB (eBin fNe (eComp (aItems (eV 1)) (gN 4) (toB (eBin (fIn false) (eV 6) (eV 4))) (eV 4) [4]) (eLst aNil))) (eV 6) [6]))) (sRetT2 2 (eComp (aItems (eV 3)) (gN 6) (tBor 2 (toB (eBin (fIn true) (eV 6) (eV 2)))) (eV 6) [6]))))))
def d_quiet : FD := dDef true 1 7 b_quiet
def b_law : SM := (sSeq (sFor (aRng rng1 (aCons (eK (.int 2)) aNil)) (gN 2) (sSeq (sSet 3 (eCall d__law_web (aCons (eV 1) (aCons (eK (.int 2)) (aCons (eBin fIx (eLst (aCons (eK (.int 4)) (aCons (eK (.int 4)) (aCons (eK (.int 4)) (aCons (eK (.int 6)) aNil))))) (eCall d__law_taken (aCons (eV 1) (aCons (eK (.int 4)) aNil)))) aNil))))) (sSeq (sSet 4 (eComp (aItems (eCall d__law_worlds (aCons (eV 3) aNil))) (gT 2 (gsCons (gN 12) (gsCons (gN 13) gsNil))) cYes (eV 12) [12, 13])) (sSeq (sSet 5 (eLRg1 (eBin fIx (eV 3) (eK (.int 0))))) (sSeq (sSet 6 (eComp (aItems (eV 5)) (gN 14) (toB (eBin fEq (eComp (aItems (eV 4)) (gN 12) (toB (eBin (fIn true) (eV 14) (eV 12))) (eV 12) [12]) (eLst aNil))) (eV 14) [14])) (sSeq (sSet 7 (eComp (aItems (eV 5)) (gN 14) (tAnd' (toB (eBin (fIn true) (eV 14) (eV 6))) (toB (eBin fNe (eComp (aItems (eV 4)) (gN 12) (toB (eBin (fIn false) (eV 14) (eV 12))) (eV 12) [12]) (eLst aNil)))) (eV 14) [14])) (sSeq (sFor (aRng rng1 (aCons (eK (.int 2)) aNil)) (gN 8) (sTold2 9 (eCall d_quiet (aCons (eV 3) aNil)) (tNot' (toB (eCall d__law_alike (aCons (eV 9) (aCons (eTup (aCons (eV 6) (aCons (eV 7) aNil))) aNil))))))) (sFor (aRng rng2 (aCons (eK (.int 1)) (aCons (eBin fIx (eV 3) (eK (.int 0))) aNil))) (gN 10) (sFor (aItems (eCall d__law_answers (aCons (eV 3) (aCons (eV 10) (aCons (eBin fMul (eK (.int 2)) (eBin fIx (eV 3) (eK (.int 0)))) aNil))))) (gN 11) (sIf (tAnd' (toB (eBin fEq (eArgs fLen (aCons (eV 11) aNil)) (eK (.int 2)))) (toB (eBin (fIn false) (eBin fIx (eV 11) (eK (.int 1))) (eBin fAdd (eV 6) (eV 7))))) (sRet (eK (.bl false))) sNext)))))))))) (sRet (eK (.bl true))))
end K08
end
section
namespace K08
open PySem PySem.Spec L2 HD HC
open PyProof.Rows hiding St
def top (i : Nat) : Stmt := PySem.Challenge.pw_hopmark_k08_whole_who_is_silent.main.body.getD i (.Pass ⟨0, 0, 0, 0⟩)
abbrev s_is_many : Stmt := top 6
theorem sc_is_many : FnScope ["many"] ["many"] (defScope s_is_many) := ⟨rfl, rfl, rfl, by decide +kernel, rfl, by decide +kernel, by decide +kernel⟩
abbrev s_is_way : Stmt := top 7
theorem sc_is_way : FnScope ["many", "goal", "way", "post", "there"] ["many", "goal", "way"] (defScope s_is_way) := ⟨rfl, rfl, rfl, by decide +kernel, rfl, by decide +kernel, by decide +kernel⟩
abbrev s_need_web : Stmt := top 8
theorem sc_need_web : FnScope ["web", "many", "silent", "ways", "goal", "post"] ["web"] (defScope s_need_web) := ⟨rfl, rfl, rfl, by decide +kernel, rfl, by decide +kernel, by decide +kernel⟩
abbrev s_steps_to : Stmt := top 11
theorem sc_steps_to : FnScope ["many"] ["many"] (defScope s_steps_to) := ⟨rfl, rfl, rfl, by decide +kernel, rfl, by decide +kernel, by decide +kernel⟩
abbrev s_posts_on : Stmt := top 12
theorem sc_posts_on : FnScope ["way", "goal", "hops", "here", "found", "turn"] ["way", "goal", "hops"] (defScope s_posts_on) := ⟨rfl, rfl, rfl, by decide +kernel, rfl, by decide +kernel, by decide +kernel⟩
abbrev s_answer_of : Stmt := top 13
theorem sc_answer_of : FnScope ["silent", "goal", "here"] ["silent", "goal", "here"] (defScope s_answer_of) := ⟨rfl, rfl, rfl, by decide +kernel, rfl, by decide +kernel, by decide +kernel⟩
abbrev s_answers_of : Stmt := top 14
theorem sc_answers_of : FnScope ["silent", "way", "goal", "hops", "here"] ["silent", "way", "goal", "hops"] (defScope s_answers_of) := ⟨rfl, rfl, rfl, by decide +kernel, rfl, by decide +kernel, by decide +kernel⟩
abbrev s_with_end : Stmt := top 17
theorem sc_with_end : FnScope ["posts", "there", "way", "place"] ["posts", "there"] (defScope s_with_end) := ⟨rfl, rfl, rfl, by decide +kernel, rfl, by decide +kernel, by decide +kernel⟩
abbrev s_all_ways : Stmt := top 16
theorem sc_all_ways : FnScope ["many", "goal", "found", "left", "posts", "there"] ["many", "goal"] (defScope s_all_ways) := ⟨rfl, rfl, rfl, by decide +kernel, rfl, by decide +kernel, by decide +kernel⟩
abbrev s_all_silent : Stmt := top 18
theorem sc_all_silent : FnScope ["many", "seen", "some", "post", "one"] ["many", "seen"] (defScope s_all_silent) := ⟨rfl, rfl, rfl, by decide +kernel, rfl, by decide +kernel, by decide +kernel⟩
abbrev s_seen_in : Stmt := top 19
theorem sc_seen_in : FnScope ["told", "one"] ["told"] (defScope s_seen_in) := ⟨rfl, rfl, rfl, by decide +kernel, rfl, by decide +kernel, by decide +kernel⟩
abbrev s_gives : Stmt := top 20
theorem sc_gives : FnScope ["silent", "way", "goal", "due", "told", "hops"] ["silent", "way", "goal", "due"] (defScope s_gives) := ⟨rfl, rfl, rfl, by decide +kernel, rfl, by decide +kernel, by decide +kernel⟩
abbrev s_giving : Stmt := top 21
theorem sc_giving : FnScope ["some", "silent", "goal", "due", "way"] ["some", "silent", "goal", "due"] (defScope s_giving) := ⟨rfl, rfl, rfl, by decide +kernel, rfl, by decide +kernel, by decide +kernel⟩
abbrev s_dues_of : Stmt := top 23
theorem sc_dues_of : FnScope ["web", "found", "goal", "told", "place"] ["web"] (defScope s_dues_of) := ⟨rfl, rfl, rfl, by decide +kernel, rfl, by decide +kernel, by decide +kernel⟩
abbrev s_all_worlds : Stmt := top 24
theorem sc_all_worlds : FnScope ["web", "dues", "seen", "goal", "found", "every", "silent", "some"] ["web"] (defScope s_all_worlds) := ⟨rfl, rfl, rfl, by decide +kernel, rfl, by decide +kernel, by decide +kernel⟩
abbrev s_quiet : Stmt := top 25
theorem sc_quiet : FnScope ["web", "some", "sure", "perhaps", "silent", "ways", "post"] ["web"] (defScope s_quiet) := ⟨rfl, rfl, rfl, by decide +kernel, rfl, by decide +kernel, by decide +kernel⟩
abbrev s__law_taken : Stmt := top 27
theorem sc__law_taken : FnScope ["_law_row", "_law_many", "_law_cell"] ["_law_row", "_law_many"] (defScope s__law_taken) := ⟨rfl, rfl, rfl, by decide +kernel, rfl, by decide +kernel, by decide +kernel⟩
abbrev s__law_alike : Stmt := top 28
theorem sc__law_alike : FnScope ["_law_found", "_law_due", "_law_k"] ["_law_found", "_law_due"] (defScope s__law_alike) := ⟨rfl, rfl, rfl, by decide +kernel, rfl, by decide +kernel, by decide +kernel⟩
abbrev s__law_way : Stmt := top 29
theorem sc__law_way : FnScope ["_law_row", "_law_many", "_law_goal", "_law_kind", "_law_found", "_law_post", "_law_there", "_law_some"] ["_law_row", "_law_many", "_law_goal", "_law_kind"] (defScope s__law_way) := ⟨rfl, rfl, rfl, by decide +kernel, rfl, by decide +kernel, by decide +kernel⟩
abbrev s__law_web : Stmt := top 30
theorem sc__law_web : FnScope ["_law_row", "_law_least", "_law_most", "_law_many", "_law_often", "_law_silent", "_law_post", "_law_goal"] ["_law_row", "_law_least", "_law_most"] (defScope s__law_web) := ⟨rfl, rfl, rfl, by decide +kernel, rfl, by decide +kernel, by decide +kernel⟩
abbrev s__law_asked : Stmt := top 31
theorem sc__law_asked : FnScope ["_law_web_here", "_law_goal", "_law_hops", "_law_many", "_law_silent", "_law_ways", "_law_here"] ["_law_web_here", "_law_goal", "_law_hops"] (defScope s__law_asked) := ⟨rfl, rfl, rfl, by decide +kernel, rfl, by decide +kernel, by decide +kernel⟩
abbrev s__law_answers : Stmt := top 32
theorem sc__law_answers : FnScope ["_law_web_here", "_law_goal", "_law_hops", "_law_k"] ["_law_web_here", "_law_goal", "_law_hops"] (defScope s__law_answers) := ⟨rfl, rfl, rfl, by decide +kernel, rfl, by decide +kernel, by decide +kernel⟩
abbrev s__law_all_ways : Stmt := top 33
theorem sc__law_all_ways : FnScope ["_law_many", "_law_goal", "_law_found", "_law_post", "_law_some", "_law_longer", "_law_way_here", "_law_there"] ["_law_many", "_law_goal"] (defScope s__law_all_ways) := ⟨rfl, rfl, rfl, by decide +kernel, rfl, by decide +kernel, by decide +kernel⟩
abbrev s__law_all_walks : Stmt := top 34
theorem sc__law_all_walks : FnScope ["_law_many", "_law_goal", "_law_found", "_law_left", "_law_posts", "_law_way_here", "_law_here", "_law_there", "_law_longer", "_law_post"] ["_law_many", "_law_goal"] (defScope s__law_all_walks) := ⟨rfl, rfl, rfl, by decide +kernel, rfl, by decide +kernel, by decide +kernel⟩
abbrev s__law_some_ways : Stmt := top 35
theorem sc__law_some_ways : FnScope ["_law_many", "_law_goal"] ["_law_many", "_law_goal"] (defScope s__law_some_ways) := ⟨rfl, rfl, rfl, by decide +kernel, rfl, by decide +kernel, by decide +kernel⟩
abbrev s__law_all_silent : Stmt := top 36
theorem sc__law_all_silent : FnScope ["_law_many", "_law_found", "_law_post", "_law_some"] ["_law_many"] (defScope s__law_all_silent) := ⟨rfl, rfl, rfl, by decide +kernel, rfl, by decide +kernel, by decide +kernel⟩
abbrev s__law_told : Stmt := top 37
theorem sc__law_told : FnScope ["_law_silent", "_law_way_here", "_law_goal", "_law_hops", "_law_many", "_law_web_here"] ["_law_silent", "_law_way_here", "_law_goal", "_law_hops"] (defScope s__law_told) := ⟨rfl, rfl, rfl, by decide +kernel, rfl, by decide +kernel, by decide +kernel⟩
abbrev s__law_worlds : Stmt := top 38
theorem sc__law_worlds : FnScope ["_law_web_here", "_law_many", "_law_found", "_law_silent", "_law_some", "_law_goal", "_law_due", "_law_good", "_law_way_here", "_law_k"] ["_law_web_here"] (defScope s__law_worlds) := ⟨rfl, rfl, rfl, by decide +kernel, rfl, by decide +kernel, by decide +kernel⟩
abbrev s_law : Stmt := top 39
theorem sc_law : FnScope ["_law_script", "_law_row", "_law_turn", "_law_web_here", "_law_some", "_law_posts", "_law_sure", "_law_perhaps", "_law_again", "_law_found", "_law_goal", "_law_one", "_law_silent", "_law_ways", "_law_post"] ["_law_script"] (defScope s_law) := ⟨rfl, rfl, rfl, by decide +kernel, rfl, by decide +kernel, by decide +kernel⟩
structure Tx (K : PySem.W.Frag) (mg : Str → Option Value) : Prop where
  b_bool : mg "bool" = none
  b_dict : mg "dict" = none
  b_int : mg "int" = none
  b_isinstance : mg "isinstance" = none
  b_len : mg "len" = none
  b_list : mg "list" = none
  b_max : mg "max" = none
  b_range : mg "range" = none
  b_set : mg "set" = none
  b_sorted : mg "sorted" = none
  b_str : mg "str" = none
  b_tuple : mg "tuple" = none
  c_LEAST_MANY : ∃ t, mg "LEAST_MANY" = some (.int 2 t)
  c_MOST_MANY : ∃ t, mg "MOST_MANY" = some (.int 6 t)
  c_NOTHING : TupC K mg "NOTHING" ["nothing"]
section
variable {P : Program} {w : World} {K : PySem.W.Frag} {mg : Str → Option Value} {base : Heap}
theorem cal_is_many (T : Tx K mg) (F : FnF K mg "is_many" s_is_many ["many"]) : Cal P w K mg base "is_many" 1 ["many"] false d_is_many := by
  exact cal_of F sc_is_many fun f cdv A outer s H E hr => (dss_one (ds_ret (de_chain op_le op_le (c_int _) (c_int _).op (de_gint rfl T.c_LEAST_MANY) (de_var (pv 0)) (de_gint rfl T.c_MOST_MANY))))
theorem cal_is_way (T : Tx K mg) (F : FnF K mg "is_way" s_is_way ["many", "goal", "way"]) : Cal P w K mg base "is_way" 1 ["many", "goal", "way"] false d_is_way := by
  exact cal_of F sc_is_way fun f cdv A outer s H E hr => (dss_cons (ds_if (PW.pt (dw_or (dt_op (op_neD hr.units) c_ne.op (de_bi call_len a_len (by rfl) T.b_len (by decide +kernel) (da_cons (de_var (pv 2)) da_nil)) (de_var (pv 0)) (nomark _)) (dw_or1 (dt_notN (de_ix ix_seq o_ix (de_var (pv 2)) (de_var (pv 1)) (fun _ _ => rfl)))))) (dss_one (ds_ret de_bl)) dss_nil) (dss_cons (ds_for PassesOwn.never rfl (di_rng1 rfl T.b_range (da_cons (de_var (pv 0)) da_nil)) (dg_name (i := 3) sc_is_way.nd rfl (by first | exact Or.inl rfl | exact Or.inr rfl)) (dss_cons (ds_set (i := 4) sc_is_way.nd rfl (by first | exact Or.inl rfl | exact Or.inr rfl) (de_ix ix_seq o_ix (de_var (pv 2)) (de_var (pv 3)) (fun _ _ => rfl))) (dss_one (ds_if (PW.pt (dw_and (dt_notN (de_var (pv 4))) (dw_and1 (PW.pt (dw_or (dt_not (dt_chain op_le op_lt (c_int _) (c_int _).op de_int (de_var (pv 4)) (de_var (pv 0)))) (dw_or1 (dt_op (op_eqD hr.units) c_eq.op (de_var (pv 4)) (de_var (pv 3)) (nomark _)))))))) (dss_one (ds_ret de_bl)) dss_nil)))) (dss_one (ds_ret de_bl))))
theorem cal_need_web (T : Tx K mg) (F : FnF K mg "need_web" s_need_web ["web"]) (C_is_many : Cal P w K mg base "is_many" 1 ["many"] false d_is_many) (C_is_way : Cal P w K mg base "is_way" 1 ["many", "goal", "way"] false d_is_way) : Cal P w K mg base "need_web" 2 ["web"] false d_need_web := by
  exact cal_of F sc_need_web fun f cdv A outer s H E hr => (dss_cons (ds_asg (de_var (pv 0)) (dg_tup rfl (dgs_cons (dg_name (i := 1) sc_need_web.nd rfl (by first | exact Or.inl rfl | exact Or.inr rfl)) (dgs_cons (dg_name (i := 2) sc_need_web.nd rfl (by first | exact Or.inl rfl | exact Or.inr rfl)) (dgs_cons (dg_name (i := 3) sc_need_web.nd rfl (by first | exact Or.inl rfl | exact Or.inr rfl)) dgs_nil))))) (dss_cons (ds_if (dt_not (dt_of (C_is_many.de (hr.mono (by decide)) (by rfl) (da_cons (de_var (pv 1)) da_nil)))) (dss_one ds_never) dss_nil) (dss_cons (ds_if (PW.pt (dw_or (dt_op (op_neD hr.units) c_ne.op (de_of (do_bt call_list_of a_list (by rfl) T.b_list (by decide +kernel) (da_cons (de_var (pv 2)) da_nil))) (de_of (do_sortSet (pe_callB (cr_sortedSet rfl) (by rfl) T.b_sorted (by decide +kernel) (pa_cons (pe_callTy (cr_setT rfl) (by rfl) T.b_set (by decide +kernel) (pa_cons (de_var (pv 2)) pa_nil)) pa_nil)))) (nomark _)) (dw_or1 (dt_op (op_neD hr.units) c_ne.op (de_of (do_lc rfl sc_need_web.nd (ow := [("post", 5)]) (di_seq (de_var (pv 2))) (blkOk_by (N := ["web", "many", "silent", "ways", "goal", "post"]) (sc := defScope s_need_web) (by decide +kernel)) (by decide) (fun _ _ _ _ _ => (dg_name (i := 5) sc_need_web.nd rfl (by first | exact Or.inl rfl | exact Or.inr rfl))) (fun _ _ _ _ _ => (dts_one (dt_not (dt_chain op_le op_lt (c_int _) (c_int _).op de_int (de_var (pv 5)) (de_var (pv 1)))))) (fun _ _ _ _ _ => (de_var (pv 5))))) (de_of (do_lst da_nil)) (nomark _))))) (dss_one ds_never) dss_nil) (dss_cons (ds_if (dt_op (op_neD hr.units) c_ne.op (de_bi call_len a_len (by rfl) T.b_len (by decide +kernel) (da_cons (de_var (pv 3)) da_nil)) (de_op op_sub o_sub (de_var (pv 1)) de_int) (nomark _)) (dss_one ds_never) dss_nil) (dss_one (ds_for PassesOwn.never rfl (di_rng2 rfl T.b_range (da_cons de_int (da_cons (de_var (pv 1)) da_nil))) (dg_name (i := 4) sc_need_web.nd rfl (by first | exact Or.inl rfl | exact Or.inr rfl)) (dss_one (ds_if (dt_not (dt_of (C_is_way.de (hr.mono (by decide)) (by rfl) (da_cons (de_var (pv 1)) (da_cons (de_var (pv 4)) (da_cons (de_ix ix_seq o_ix (de_var (pv 3)) (de_op op_sub o_sub (de_var (pv 4)) de_int) (fun _ _ => rfl)) da_nil)))))) (dss_one ds_never) dss_nil))))))))
theorem cal_steps_to (T : Tx K mg) (F : FnF K mg "steps_to" s_steps_to ["many"]) : Cal P w K mg base "steps_to" 1 ["many"] false d_steps_to := by
  exact cal_of F sc_steps_to fun f cdv A outer s H E hr => (dss_one (ds_ret (de_op op_mul2 o_mul de_int (de_var (pv 0)))))
theorem cal_posts_on (T : Tx K mg) (F : FnF K mg "posts_on" s_posts_on ["way", "goal", "hops"]) : Cal P w K mg base "posts_on" 1 ["way", "goal", "hops"] true d_posts_on := by
  exact cal_of F sc_posts_on fun f cdv A outer s H E hr => (dss_cons (ds_set (i := 3) sc_posts_on.nd rfl (by first | exact Or.inl rfl | exact Or.inr rfl) de_int) (dss_cons (ds_setO (i := 4) sc_posts_on.nd rfl (by first | exact Or.inl rfl | exact Or.inr rfl) (do_lst da_nil)) (dss_cons (ds_for PassesOwn.never rfl (di_rng1 rfl T.b_range (da_cons (de_var (pv 2)) da_nil)) (dg_name (i := 5) sc_posts_on.nd rfl (by first | exact Or.inl rfl | exact Or.inr rfl)) (dss_cons (ds_if (PW.pt (dw_and (dt_notN (de_var (pv 3))) (dw_and1 (dt_op (op_neD hr.units) c_ne.op (de_var (pv 3)) (de_var (pv 1)) (nomark _))))) (dss_one (ds_set (i := 3) sc_posts_on.nd rfl (by first | exact Or.inl rfl | exact Or.inr rfl) (de_ixD (hu_of hr) (de_var (pv 0)) (de_var (pv 3)) (fun _ _ => rfl)))) dss_nil) (dss_one (ds_mut (ps_expr (pe_bm PySem.F.plainAttrs_list PySem.F.slot_list_append PySem.F.type_list_append mt_append (pv 4) (da_cons (de_var (pv 3)) da_nil))) mut_append)))) (dss_one (ds_retV (pv 4))))))
theorem cal_answer_of (T : Tx K mg) (F : FnF K mg "answer_of" s_answer_of ["silent", "goal", "here"]) : Cal P w K mg base "answer_of" 1 ["silent", "goal", "here"] false d_answer_of := by
  exact cal_of F sc_answer_of fun f cdv A outer s H E hr => (dss_cons (ds_if (PW.pt (dw_or (dt_isN (de_var (pv 2))) (dw_or1 (dt_op (op_in2 (hu65 hr)) c_in.op (de_var (pv 2)) (de_var (pv 0)) (by rfl))))) (dss_one (ds_ret (de_gtup (zs := ["nothing"]) rfl T.c_NOTHING))) dss_nil) (dss_one (ds_ret (de_tup (da_cons (de_if (dt_op (op_eqD hr.units) c_eq.op (de_var (pv 2)) (de_var (pv 1)) (nomark _)) de_str de_str) (da_cons (de_var (pv 2)) da_nil))))))
theorem cal_answers_of (T : Tx K mg) (F : FnF K mg "answers_of" s_answers_of ["silent", "way", "goal", "hops"]) (C_posts_on : Cal P w K mg base "posts_on" 1 ["way", "goal", "hops"] true d_posts_on) (C_answer_of : Cal P w K mg base "answer_of" 1 ["silent", "goal", "here"] false d_answer_of) : Cal P w K mg base "answers_of" 2 ["silent", "way", "goal", "hops"] true d_answers_of := by
  exact cal_of F sc_answers_of fun f cdv A outer s H E hr => (dss_one (ds_retO (do_lc rfl sc_answers_of.nd (ow := [("here", 4)]) (di_seq (de_of (C_posts_on.do (hr.mono (by decide)) (by rfl) (da_cons (de_var (pv 1)) (da_cons (de_var (pv 2)) (da_cons (de_var (pv 3)) da_nil)))))) (blkOk_by (N := ["silent", "way", "goal", "hops", "here"]) (sc := defScope s_answers_of) (by decide +kernel)) (by decide) (fun _ _ _ _ _ => (dg_name (i := 4) sc_answers_of.nd rfl (by first | exact Or.inl rfl | exact Or.inr rfl))) (fun _ _ _ _ _ => dts_nil) (fun _ _ _ _ _ => (C_answer_of.de (hr.mono (by decide)) (by rfl) (da_cons (de_var (pv 0)) (da_cons (de_var (pv 2)) (da_cons (de_var (pv 4)) da_nil))))))))
theorem cal_with_end (T : Tx K mg) (F : FnF K mg "with_end" s_with_end ["posts", "there"]) : Cal P w K mg base "with_end" 1 ["posts", "there"] true d_with_end := by
  exact cal_of F sc_with_end fun f cdv A outer s H E hr => (dss_cons (ds_setO (i := 2) sc_with_end.nd rfl (by first | exact Or.inl rfl | exact Or.inr rfl) do_dnew) (dss_cons (ds_for PassesOwn.never rfl (di_rng1 rfl T.b_range (da_cons (de_op op_sub o_sub (de_bi call_len a_len (by rfl) T.b_len (by decide +kernel) (da_cons (de_var (pv 0)) da_nil)) de_int) da_nil)) (dg_name (i := 3) sc_with_end.nd rfl (by first | exact Or.inl rfl | exact Or.inr rfl)) (dss_one (ds_dput (ps_dput (hu_of hr) (pv 2) (de_ix ix_seq o_ix (de_var (pv 0)) (de_var (pv 3)) (fun _ _ => rfl)) (de_ix ix_seq o_ix (de_var (pv 0)) (de_op op_add4 o_add (de_var (pv 3)) de_int) (fun _ _ => rfl)) (by rfl))))) (dss_cons (ds_dput (ps_dput (hu_of hr) (pv 2) (de_ix ix_seq o_ix (de_var (pv 0)) (de_un un_neg u_neg de_int) (fun _ _ => rfl)) (de_var (pv 1)) (by rfl))) (dss_one (ds_retV (pv 2))))))
theorem cal_all_ways (T : Tx K mg) (F : FnF K mg "all_ways" s_all_ways ["many", "goal"]) (C_with_end : Cal P w K mg base "with_end" 1 ["posts", "there"] true d_with_end) : Cal P w K mg base "all_ways" 2 ["many", "goal"] true d_all_ways := by
  exact cal_of F sc_all_ways fun f cdv A outer s H E hr => (dss_cons (ds_setO (i := 2) sc_all_ways.nd rfl (by first | exact Or.inl rfl | exact Or.inr rfl) (do_lst da_nil)) (dss_cons (ds_setO (i := 3) sc_all_ways.nd rfl (by first | exact Or.inl rfl | exact Or.inr rfl) (do_lst (da_cons (de_tup (da_cons de_int da_nil)) da_nil))) (dss_cons (ds_while 100 PassesOwn.never (dt_bor (i := 3) (dt_op (op_neD hr.units) c_ne.op (de_var (pv 3)) (de_of (do_lst da_nil)) (nomark _))) (dss_cons (ds_pop0 (ps_asg (pe_bm PySem.F.plainAttrs_list PySem.F.slot_list_pop PySem.F.type_list_pop mt_popAt (pv 3) (pa_cons pe_int pa_nil)) (dg_name (i := 4) sc_all_ways.nd rfl (by first | exact Or.inl rfl | exact Or.inr rfl)))) (dss_one (ds_for PassesOwn.never rfl (di_seq (de_op op_add4 o_add (de_of (do_lst (da_cons de_non da_nil))) (de_of (do_lrg1 rfl (by rfl) T.b_list (by rfl) T.b_range (de_var (pv 0)))))) (dg_name (i := 5) sc_all_ways.nd rfl (by first | exact Or.inl rfl | exact Or.inr rfl)) (dss_cons (ds_if (dt_op (op_eqD hr.units) c_eq.op (de_var (pv 5)) (de_ix ix_seq o_ix (de_var (pv 4)) (de_un un_neg u_neg de_int) (fun _ _ => rfl)) (nomark _)) (dss_one ds_cont) dss_nil) (dss_one (ds_if (PW.pt (dw_or (dt_isN (de_var (pv 5))) (dw_or (dt_op (op_eqD hr.units) c_eq.op (de_var (pv 5)) (de_var (pv 1)) (nomark _)) (dw_or1 (dt_op (op_in2 (hu65 hr)) c_in.op (de_var (pv 5)) (de_var (pv 4)) (by rfl)))))) (dss_one (ds_mut (ps_expr (pe_bm PySem.F.plainAttrs_list PySem.F.slot_list_append PySem.F.type_list_append mt_append (pv 2) (da_cons (de_of (C_with_end.do (hr.mono (by decide)) (by rfl) (da_cons (de_var (pv 4)) (da_cons (de_var (pv 5)) da_nil)))) da_nil))) mut_append)) (dss_one (ds_mut (ps_expr (pe_bm PySem.F.plainAttrs_list PySem.F.slot_list_append PySem.F.type_list_append mt_append (pv 3) (da_cons (de_op op_add4 o_add (de_var (pv 4)) (de_tup (da_cons (de_var (pv 5)) da_nil))) da_nil))) mut_append))))))))) (dss_one (ds_retV (pv 2))))))
theorem cal_all_silent {c P' : Addr} (T : Tx K mg) (F : FnC K mg "all_silent" s_all_silent ["many", "seen"] c) (L : LamT K mg base "all_silent" c P') : Cal P w K mg base "all_silent" 1 ["many", "seen"] false d_all_silent := by
  exact cal_ofC F sc_all_silent fun f A outer s H E hr => (dss_cons (ds_set (i := 2) sc_all_silent.nd rfl (by first | exact Or.inl rfl | exact Or.inr rfl) (de_of (do_lst (da_cons (de_tup da_nil) da_nil)))) (dss_cons (ds_for PassesOwn.never rfl (di_rng2 rfl T.b_range (da_cons de_int (da_cons (de_var (pv 0)) da_nil))) (dg_name (i := 3) sc_all_silent.nd rfl (by first | exact Or.inl rfl | exact Or.inr rfl)) (dss_one (ds_if (dt_op (op_notIn2 (hu65 hr)) c_notIn.op (de_var (pv 3)) (de_var (pv 1)) (by rfl)) (dss_one (ds_set (i := 2) sc_all_silent.nd rfl (by first | exact Or.inl rfl | exact Or.inr rfl) (de_op op_add4 o_add (de_var (pv 2)) (de_of (do_lc rfl sc_all_silent.nd (ow := [("one", 4)]) (di_seq (de_var (pv 2))) (blkOk_by (N := ["many", "seen", "some", "post", "one"]) (sc := defScope s_all_silent) (by decide +kernel)) (by decide) (fun _ _ _ _ _ => (dg_name (i := 4) sc_all_silent.nd rfl (by first | exact Or.inl rfl | exact Or.inr rfl))) (fun _ _ _ _ _ => dts_nil) (fun _ _ _ _ _ => (de_op op_add4 o_add (de_var (pv 4)) (de_tup (da_cons (de_var (pv 3)) da_nil))))))))) dss_nil))) (dss_one (ds_ret (de_of (do_sortKey1 hr (by rfl) T.b_sorted T.b_len (da_cons (de_var (pv 2)) da_nil) L rfl rfl rfl ⟨rfl, rfl, rfl, by decide, by decide, rfl⟩ rfl (fun _ _ _ _ _ => rfl)))))))
theorem cal_seen_in (T : Tx K mg) (F : FnF K mg "seen_in" s_seen_in ["told"]) : Cal P w K mg base "seen_in" 1 ["told"] true d_seen_in := by
  exact cal_of F sc_seen_in fun f cdv A outer s H E hr => (dss_one (ds_retO (do_lc rfl sc_seen_in.nd (ow := [("one", 1)]) (di_seq (de_var (pv 0))) (blkOk_by (N := ["told", "one"]) (sc := defScope s_seen_in) (by decide +kernel)) (by decide) (fun _ _ _ _ _ => (dg_name (i := 1) sc_seen_in.nd rfl (by first | exact Or.inl rfl | exact Or.inr rfl))) (fun _ _ _ _ _ => (dts_one (dt_op (op_neD hr.units) c_ne.op (de_var (pv 1)) (de_gtup (zs := ["nothing"]) rfl T.c_NOTHING) (nomark _)))) (fun _ _ _ _ _ => (de_ix ix_seq o_ix (de_var (pv 1)) de_int (fun _ _ => rfl))))))
theorem cal_gives (T : Tx K mg) (F : FnF K mg "gives" s_gives ["silent", "way", "goal", "due"]) (C_answers_of : Cal P w K mg base "answers_of" 2 ["silent", "way", "goal", "hops"] true d_answers_of) : Cal P w K mg base "gives" 3 ["silent", "way", "goal", "due"] false d_gives := by
  exact cal_of F sc_gives fun f cdv A outer s H E hr => (dss_cons (ds_set (i := 4) sc_gives.nd rfl (by first | exact Or.inl rfl | exact Or.inr rfl) (de_of (C_answers_of.do (hr.mono (by decide)) (by rfl) (da_cons (de_var (pv 0)) (da_cons (de_var (pv 1)) (da_cons (de_var (pv 2)) (da_cons (de_bi (cr_maxK rfl) a_maxK (by rfl) T.b_max (by decide +kernel) (da_cons (de_var (pv 3)) da_nil)) da_nil))))))) (dss_one (ds_ret (de_cmp (op_eqD hr.units) c_eq.op (de_of (do_lc rfl sc_gives.nd (ow := [("hops", 5)]) (di_keys (de_var (pv 3))) (blkOk_by (N := ["silent", "way", "goal", "due", "told", "hops"]) (sc := defScope s_gives) (by decide +kernel)) (by decide) (fun _ _ _ _ _ => (dg_name (i := 5) sc_gives.nd rfl (by first | exact Or.inl rfl | exact Or.inr rfl))) (fun _ _ _ _ _ => (dts_one (dt_op (op_neD hr.units) c_ne.op (de_ix ix_seq o_ix (de_var (pv 4)) (de_op op_sub o_sub (de_var (pv 5)) de_int) (fun _ _ => rfl)) (de_ixD (hu_of hr) (de_var (pv 3)) (de_var (pv 5)) (fun _ _ => rfl)) (nomark _)))) (fun _ _ _ _ _ => (de_var (pv 5))))) (de_of (do_lst da_nil)) (nomark _)))))
theorem cal_giving (T : Tx K mg) (F : FnF K mg "giving" s_giving ["some", "silent", "goal", "due"]) (C_gives : Cal P w K mg base "gives" 3 ["silent", "way", "goal", "due"] false d_gives) : Cal P w K mg base "giving" 4 ["some", "silent", "goal", "due"] true d_giving := by
  exact cal_of F sc_giving fun f cdv A outer s H E hr => (dss_one (ds_retO (do_lc rfl sc_giving.nd (ow := [("way", 4)]) (di_seq (de_var (pv 0))) (blkOk_by (N := ["some", "silent", "goal", "due", "way"]) (sc := defScope s_giving) (by decide +kernel)) (by decide) (fun _ _ _ _ _ => (dg_name (i := 4) sc_giving.nd rfl (by first | exact Or.inl rfl | exact Or.inr rfl))) (fun _ _ _ _ _ => (dts_one (dt_of (C_gives.de (hr.mono (by decide)) (by rfl) (da_cons (de_var (pv 1)) (da_cons (de_var (pv 4)) (da_cons (de_var (pv 2)) (da_cons (de_var (pv 3)) da_nil)))))))) (fun _ _ _ _ _ => (de_var (pv 4))))))
theorem cal_dues_of (T : Tx K mg) (F : FnF K mg "dues_of" s_dues_of ["web"]) (C_steps_to : Cal P w K mg base "steps_to" 1 ["many"] false d_steps_to) (C_answers_of : Cal P w K mg base "answers_of" 2 ["silent", "way", "goal", "hops"] true d_answers_of) : Cal P w K mg base "dues_of" 3 ["web"] true d_dues_of := by
  exact cal_of F sc_dues_of fun f cdv A outer s H E hr => (dss_cons (ds_setO (i := 1) sc_dues_of.nd rfl (by first | exact Or.inl rfl | exact Or.inr rfl) do_dnew) (dss_cons (ds_for PassesOwn.never rfl (di_rng2 rfl T.b_range (da_cons de_int (da_cons (de_ix ix_seq o_ix (de_var (pv 0)) de_int (fun _ _ => rfl)) da_nil))) (dg_name (i := 2) sc_dues_of.nd rfl (by first | exact Or.inl rfl | exact Or.inr rfl)) (dss_cons (ds_set (i := 3) sc_dues_of.nd rfl (by first | exact Or.inl rfl | exact Or.inr rfl) (de_of (C_answers_of.do (hr.mono (by decide)) (by rfl) (da_cons (de_ix ix_seq o_ix (de_var (pv 0)) de_int (fun _ _ => rfl)) (da_cons (de_ix ix_seq o_ix (de_ix ix_seq o_ix (de_var (pv 0)) de_int (fun _ _ => rfl)) (de_op op_sub o_sub (de_var (pv 2)) de_int) (fun _ _ => rfl)) (da_cons (de_var (pv 2)) (da_cons (C_steps_to.de (hr.mono (by decide)) (by rfl) (da_cons (de_ix ix_seq o_ix (de_var (pv 0)) de_int (fun _ _ => rfl)) da_nil)) da_nil))))))) (dss_one (ds_dput (ps_dput (hu_of hr) (pv 1) (de_var (pv 2)) (de_of (do_bt (call_dictP rfl) a_dictP (by rfl) T.b_dict (by decide +kernel) (da_cons (de_of (do_lc rfl sc_dues_of.nd (ow := [("place", 4)]) (di_rng1 rfl T.b_range (da_cons (de_bi call_len a_len (by rfl) T.b_len (by decide +kernel) (da_cons (de_var (pv 3)) da_nil)) da_nil)) (blkOk_by (N := ["web", "found", "goal", "told", "place"]) (sc := defScope s_dues_of) (by decide +kernel)) (by decide) (fun _ _ _ _ _ => (dg_name (i := 4) sc_dues_of.nd rfl (by first | exact Or.inl rfl | exact Or.inr rfl))) (fun _ _ _ _ _ => dts_nil) (fun _ _ _ _ _ => (de_tup (da_cons (de_op op_add4 o_add (de_var (pv 4)) de_int) (da_cons (de_ix ix_seq o_ix (de_var (pv 3)) (de_var (pv 4)) (fun _ _ => rfl)) da_nil)))))) da_nil))) (by rfl)))))) (dss_one (ds_retV (pv 1)))))
theorem cal_all_worlds (T : Tx K mg) (F : FnF K mg "all_worlds" s_all_worlds ["web"]) (C_dues_of : Cal P w K mg base "dues_of" 3 ["web"] true d_dues_of) (C_seen_in : Cal P w K mg base "seen_in" 1 ["told"] true d_seen_in) (C_all_ways : Cal P w K mg base "all_ways" 2 ["many", "goal"] true d_all_ways) (C_all_silent : Cal P w K mg base "all_silent" 1 ["many", "seen"] false d_all_silent) (C_giving : Cal P w K mg base "giving" 4 ["some", "silent", "goal", "due"] true d_giving) : Cal P w K mg base "all_worlds" 5 ["web"] true d_all_worlds := by
  exact cal_of F sc_all_worlds fun f cdv A outer s H E hr => (dss_cons (ds_set (i := 1) sc_all_worlds.nd rfl (by first | exact Or.inl rfl | exact Or.inr rfl) (de_of (C_dues_of.do (hr.mono (by decide)) (by rfl) (da_cons (de_var (pv 0)) da_nil)))) (dss_cons (ds_setO (i := 2) sc_all_worlds.nd rfl (by first | exact Or.inl rfl | exact Or.inr rfl) (do_lst da_nil)) (dss_cons (ds_for PassesOwn.never rfl (di_keys (de_var (pv 1))) (dg_name (i := 3) sc_all_worlds.nd rfl (by first | exact Or.inl rfl | exact Or.inr rfl)) (dss_one (ds_mut (ps_expr (pe_bm PySem.F.plainAttrs_list PySem.F.slot_list_extend PySem.F.type_list_extend mt_extend (pv 2) (da_cons (de_of (C_seen_in.do (hr.mono (by decide)) (by rfl) (da_cons (de_of (do_vals rfl (de_ixD (hu_of hr) (de_var (pv 1)) (de_var (pv 3)) (fun _ _ => rfl)) (by rfl) T.b_list)) da_nil))) da_nil))) mut_extend))) (dss_cons (ds_setO (i := 4) sc_all_worlds.nd rfl (by first | exact Or.inl rfl | exact Or.inr rfl) (do_lst da_nil)) (dss_cons (ds_set (i := 5) sc_all_worlds.nd rfl (by first | exact Or.inl rfl | exact Or.inr rfl) (de_of (do_bt (call_dictP rfl) a_dictP (by rfl) T.b_dict (by decide +kernel) (da_cons (de_of (do_lc rfl sc_all_worlds.nd (ow := [("goal", 3)]) (di_keys (de_var (pv 1))) (blkOk_by (N := ["web", "dues", "seen", "goal", "found", "every", "silent", "some"]) (sc := defScope s_all_worlds) (by decide +kernel)) (by decide) (fun _ _ _ _ _ => (dg_name (i := 3) sc_all_worlds.nd rfl (by first | exact Or.inl rfl | exact Or.inr rfl))) (fun _ _ _ _ _ => dts_nil) (fun _ _ _ _ _ => (de_tup (da_cons (de_var (pv 3)) (da_cons (de_of (C_all_ways.do (hr.mono (by decide)) (by rfl) (da_cons (de_ix ix_seq o_ix (de_var (pv 0)) de_int (fun _ _ => rfl)) (da_cons (de_var (pv 3)) da_nil)))) da_nil)))))) da_nil)))) (dss_frz (dss_cons (ds_for PassesOwn.never rfl (di_seq (C_all_silent.de (hr.mono (by decide)) (by rfl) (da_cons (de_ix ix_seq o_ix (de_var (pv 0)) de_int (fun _ _ => rfl)) (da_cons (de_var (pv 2)) da_nil)))) (dg_name (i := 6) sc_all_worlds.nd rfl (by first | exact Or.inl rfl | exact Or.inr rfl)) (dss_cons (ds_setLc (i := 7) rfl sc_all_worlds.nd rfl rfl (sw_true rfl rfl rfl (by decide +kernel)) (ow := [("goal", 3)]) (di_rng2 rfl T.b_range (da_cons de_int (da_cons (de_ix ix_seq o_ix (de_var (pv 0)) de_int (fun _ _ => rfl)) da_nil))) (blkOk_by (N := ["web", "dues", "seen", "goal", "found", "every", "silent", "some"]) (sc := defScope s_all_worlds) (by decide +kernel)) (by decide) (fun _ _ _ _ _ => (dg_name (i := 3) sc_all_worlds.nd rfl (by first | exact Or.inl rfl | exact Or.inr rfl))) (fun _ _ _ _ _ => dts_nil) (fun _ _ _ _ _ => (de_of (C_giving.do (hr.mono (by decide)) (by rfl) (da_cons (de_ixD (hu_of hr) (de_var (pv 5)) (de_var (pv 3)) (fun _ _ => rfl)) (da_cons (de_var (pv 6)) (da_cons (de_var (pv 3)) (da_cons (de_ixD (hu_of hr) (de_var (pv 1)) (de_var (pv 3)) (fun _ _ => rfl)) da_nil)))))))) (dss_one (ds_if (dt_op (op_notInNil (hu64 hr)) c_notInN.op (de_of (do_lst da_nil)) (de_var (pv 7)) (by rfl)) (dss_one (ds_mut (ps_expr (pe_bm PySem.F.plainAttrs_list PySem.F.slot_list_append PySem.F.type_list_append mt_append (pv 4) (da_cons (de_tup (da_cons (de_var (pv 6)) (da_cons (de_var (pv 7)) da_nil))) da_nil))) mut_append)) dss_nil)))) (dss_one (ds_retV (pv 4))))))))))
theorem cal_quiet (T : Tx K mg) (F : FnF K mg "quiet" s_quiet ["web"]) (C_need_web : Cal P w K mg base "need_web" 2 ["web"] false d_need_web) (C_all_worlds : Cal P w K mg base "all_worlds" 5 ["web"] true d_all_worlds) : CalN P w K mg base "quiet" 6 ["web"] d_quiet := by
  exact calN_of F sc_quiet fun f cdv A outer s H E hr => (nss_cons (ns_of (ds_expr (C_need_web.de (hr.mono (by decide)) (by rfl) (da_cons (de_var (pv 0)) da_nil)))) (nss_cons (ns_of (ds_set (i := 1) sc_quiet.nd rfl (by first | exact Or.inl rfl | exact Or.inr rfl) (de_of (do_lc rfl sc_quiet.nd (ow := [("silent", 4), ("ways", 5)]) (di_seq (de_of (C_all_worlds.do (hr.mono (by decide)) (by rfl) (da_cons (de_var (pv 0)) da_nil)))) (blkOk_by (N := ["web", "some", "sure", "perhaps", "silent", "ways", "post"]) (sc := defScope s_quiet) (by decide +kernel)) (by decide) (fun _ _ _ _ _ => (dg_tup rfl (dgs_cons (dg_name (i := 4) sc_quiet.nd rfl (by first | exact Or.inl rfl | exact Or.inr rfl)) (dgs_cons (dg_name (i := 5) sc_quiet.nd rfl (by first | exact Or.inl rfl | exact Or.inr rfl)) dgs_nil)))) (fun _ _ _ _ _ => dts_nil) (fun _ _ _ _ _ => (de_var (pv 4))))))) (nss_cons (ns_of (ds_setO (i := 2) sc_quiet.nd rfl (by first | exact Or.inl rfl | exact Or.inr rfl) (do_lc rfl sc_quiet.nd (ow := [("post", 6)]) (di_rng1 rfl T.b_range (da_cons (de_ix ix_seq o_ix (de_var (pv 0)) de_int (fun _ _ => rfl)) da_nil)) (blkOk_by (N := ["web", "some", "sure", "perhaps", "silent", "ways", "post"]) (sc := defScope s_quiet) (by decide +kernel)) (by decide) (fun _ _ _ _ _ => (dg_name (i := 6) sc_quiet.nd rfl (by first | exact Or.inl rfl | exact Or.inr rfl))) (fun _ _ _ _ _ => (dts_one (dt_op (op_eqD hr.units) c_eq.op (de_of (do_lc rfl sc_quiet.nd (ow := [("silent", 4)]) (di_seq (de_var (pv 1))) (blkOk_by (by kernel_rfl)) (by decide) (fun _ _ _ _ _ => (dg_name (i := 4) sc_quiet.nd rfl (by first | exact Or.inl rfl | exact Or.inr rfl))) (fun _ _ _ _ _ => (dts_one (dt_op (op_notIn2 (hu65 hr)) c_notIn.op (de_var (pv 6)) (de_var (pv 4)) (by rfl)))) (fun _ _ _ _ _ => (de_var (pv 4))))) (de_of (do_lst da_nil)) (nomark _)))) (fun _ _ _ _ _ => (de_var (pv 6)))))) (nss_cons (ns_of (ds_setLc (i := 3) rfl sc_quiet.nd rfl rfl (sw_true rfl rfl rfl (by decide +kernel)) (ow := [("post", 6)]) (di_rng1 rfl T.b_range (da_cons (de_ix ix_seq o_ix (de_var (pv 0)) de_int (fun _ _ => rfl)) da_nil)) (blkOk_by (N := ["web", "some", "sure", "perhaps", "silent", "ways", "post"]) (sc := defScope s_quiet) (by decide +kernel)) (by decide) (fun _ _ _ _ _ => (dg_name (i := 6) sc_quiet.nd rfl (by first | exact Or.inl rfl | exact Or.inr rfl))) (fun _ _ _ _ _ => (dts_one (dt_op (op_neD hr.units) c_ne.op (de_of (do_lc rfl sc_quiet.nd (ow := [("silent", 4)]) (di_seq (de_var (pv 1))) (blkOk_by (by kernel_rfl)) (by decide) (fun _ _ _ _ _ => (dg_name (i := 4) sc_quiet.nd rfl (by first | exact Or.inl rfl | exact Or.inr rfl))) (fun _ _ _ _ _ => (dts_one (dt_op (op_in2 (hu65 hr)) c_in.op (de_var (pv 6)) (de_var (pv 4)) (by rfl)))) (fun _ _ _ _ _ => (de_var (pv 4))))) (de_of (do_lst da_nil)) (nomark _)))) (fun _ _ _ _ _ => (de_var (pv 6))))) (nss_one (ns_retT2 (pv 2) (do_lc rfl sc_quiet.nd (ow := [("post", 6)]) (di_seq (de_var (pv 3))) (blkOk_by (N := ["web", "some", "sure", "perhaps", "silent", "ways", "post"]) (sc := defScope s_quiet) (by decide +kernel)) (by decide) (fun _ _ _ _ _ => (dg_name (i := 6) sc_quiet.nd rfl (by first | exact Or.inl rfl | exact Or.inr rfl))) (fun _ _ _ _ _ => (dts_one (dt_bor (i := 2) (dt_op (op_notIn2 (hu65 hr)) c_notIn.op (de_var (pv 6)) (de_var (pv 2)) (by rfl))))) (fun _ _ _ _ _ => (de_var (pv 6))))))))))
theorem cal__law_taken (T : Tx K mg) (F : FnF K mg "_law_taken" s__law_taken ["_law_row", "_law_many"]) : Cal P w K mg base "_law_taken" 1 ["_law_row", "_law_many"] false d__law_taken := by
  exact cal_of F sc__law_taken fun f cdv A outer s H E hr => (dss_cons (ds_row (ps_asg (de_op op_add4 o_add (de_row (pe_ix ix_list (pv 0) pe_int (fun _ _ => rfl))) de_int) (pg_sub (pv 0) pe_int set_list))) (dss_cons (ds_if (dt_op op_gt (c_int _).op (de_row (pe_ix ix_list (pv 0) pe_int (fun _ _ => rfl))) (de_bi call_len a_len (by rfl) T.b_len (by decide +kernel) (da_cons (de_row (pe_ix ix_list (pv 0) pe_int (fun _ _ => rfl))) da_nil)) (nomark _)) (dss_cons (ds_row (ps_asg (de_op op_mod o_mod (de_op op_add4 o_add (de_op op_mul2 o_mul (de_row (pe_ix ix_list (pv 0) pe_int (fun _ _ => rfl))) de_int) de_int) de_int) (pg_sub (pv 0) pe_int set_list))) (dss_one (ds_ret (de_op op_mod o_mod (de_op op_fdiv o_fdiv (de_row (pe_ix ix_list (pv 0) pe_int (fun _ _ => rfl))) de_int) (de_var (pv 1)))))) dss_nil) (dss_cons (ds_set (i := 2) sc__law_taken.nd rfl (by first | exact Or.inl rfl | exact Or.inr rfl) (de_ix ix_seq o_ix (de_row (pe_ix ix_list (pv 0) pe_int (fun _ _ => rfl))) (de_op op_sub o_sub (de_row (pe_ix ix_list (pv 0) pe_int (fun _ _ => rfl))) de_int) (fun _ _ => rfl))) (dss_cons (ds_row (ps_asg (de_op op_mod o_mod (de_op op_add4 o_add (de_op op_add4 o_add (de_op op_mul2 o_mul (de_row (pe_ix ix_list (pv 0) pe_int (fun _ _ => rfl))) de_int) (de_var (pv 2))) de_int) de_int) (pg_sub (pv 0) pe_int set_list))) (dss_one (ds_ret (de_op op_mod o_mod (de_var (pv 2)) (de_var (pv 1)))))))))
theorem rec__law_alike (T : Tx K mg) (F : FnF K mg "_law_alike" s__law_alike ["_law_found", "_law_due"]) : ∀ n : Nat, Cal P w K mg base "_law_alike" n ["_law_found", "_law_due"] false (r__law_alike n)
  | 0 => cal_zero F
  | n + 1 => by
    have C__law_alike := rec__law_alike T F n
    exact cal_of F sc__law_alike fun f cdv A outer s H E hr => (dss_cons (ds_if (PW.pt (dw_or (dt_of (de_bi call_isi a_isi (by rfl) T.b_isinstance (by decide +kernel) (da_cons (de_var (pv 1)) (da_cons (de_gty (by rfl) T.b_tuple (by decide +kernel)) da_nil)))) (dw_or1 (dt_of (de_bi call_isi a_isi (by rfl) T.b_isinstance (by decide +kernel) (da_cons (de_var (pv 1)) (da_cons (de_gty (by rfl) T.b_list (by decide +kernel)) da_nil))))))) (dss_cons (ds_if (PW.pt (dw_or (dt_op (op_neD hr.units) c_ne.op (de_bi call_isi a_isi (by rfl) T.b_isinstance (by decide +kernel) (da_cons (de_var (pv 0)) (da_cons (de_gty (by rfl) T.b_tuple (by decide +kernel)) da_nil))) (de_bi call_isi a_isi (by rfl) T.b_isinstance (by decide +kernel) (da_cons (de_var (pv 1)) (da_cons (de_gty (by rfl) T.b_tuple (by decide +kernel)) da_nil))) (nomark _)) (dw_or1 (dt_not (dt_of (de_isi2 (pe_callB call_isiT (by rfl) T.b_isinstance (by decide +kernel) (pa_cons (de_var (pv 0)) (pa_cons (pe_tup (pa_cons (pe_bltn (v := .ty "tuple") (by rfl) T.b_tuple (by decide +kernel) rfl) (pa_cons (pe_bltn (v := .ty "list") (by rfl) T.b_list (by decide +kernel) rfl) pa_nil))) pa_nil))))))))) (dss_one (ds_ret de_bl)) dss_nil) (dss_cons (ds_if (dt_op (op_neD hr.units) c_ne.op (de_bi call_len a_len (by rfl) T.b_len (by decide +kernel) (da_cons (de_var (pv 0)) da_nil)) (de_bi call_len a_len (by rfl) T.b_len (by decide +kernel) (da_cons (de_var (pv 1)) da_nil)) (nomark _)) (dss_one (ds_ret de_bl)) dss_nil) (dss_one (ds_ret (de_cmp (op_eqD hr.units) c_eq.op (de_of (do_lc rfl sc__law_alike.nd (ow := [("_law_k", 2)]) (di_rng1 rfl T.b_range (da_cons (de_bi call_len a_len (by rfl) T.b_len (by decide +kernel) (da_cons (de_var (pv 1)) da_nil)) da_nil)) (blkOk_by (N := ["_law_found", "_law_due", "_law_k"]) (sc := defScope s__law_alike) (by decide +kernel)) (by decide) (fun _ _ _ _ _ => (dg_name (i := 2) sc__law_alike.nd rfl (by first | exact Or.inl rfl | exact Or.inr rfl))) (fun _ _ _ _ _ => (dts_one (dt_not (dt_of (C__law_alike.de hr (by rfl) (da_cons (de_ix ix_seq o_ix (de_var (pv 0)) (de_var (pv 2)) (fun _ _ => rfl)) (da_cons (de_ix ix_seq o_ix (de_var (pv 1)) (de_var (pv 2)) (fun _ _ => rfl)) da_nil))))))) (fun _ _ _ _ _ => (de_var (pv 2))))) (de_of (do_lst da_nil)) (nomark _)))))) dss_nil) (dss_cons (ds_if (PW.pt (dw_or (dt_isN (de_var (pv 1))) (dw_or1 (dt_isN (de_var (pv 0)))))) (dss_one (ds_ret (de_and (de_isN (de_var (pv 1))) (de_one (de_isN (de_var (pv 0))))))) dss_nil) (dss_cons (ds_if (PW.pt (dw_or (dt_of (de_bi call_isi a_isi (by rfl) T.b_isinstance (by decide +kernel) (da_cons (de_var (pv 1)) (da_cons (de_gty (by rfl) T.b_bool (by decide +kernel)) da_nil)))) (dw_or1 (dt_of (de_bi call_isi a_isi (by rfl) T.b_isinstance (by decide +kernel) (da_cons (de_var (pv 0)) (da_cons (de_gty (by rfl) T.b_bool (by decide +kernel)) da_nil))))))) (dss_one (ds_ret (de_and (de_bi call_isi a_isi (by rfl) T.b_isinstance (by decide +kernel) (da_cons (de_var (pv 1)) (da_cons (de_gty (by rfl) T.b_bool (by decide +kernel)) da_nil))) (de_and (de_bi call_isi a_isi (by rfl) T.b_isinstance (by decide +kernel) (da_cons (de_var (pv 0)) (da_cons (de_gty (by rfl) T.b_bool (by decide +kernel)) da_nil))) (de_one (de_cmp (op_eqD hr.units) c_eq.op (de_var (pv 0)) (de_var (pv 1)) (nomark _))))))) dss_nil) (dss_cons (ds_if (dt_of (de_bi call_isi a_isi (by rfl) T.b_isinstance (by decide +kernel) (da_cons (de_var (pv 1)) (da_cons (de_gty (by rfl) T.b_str (by decide +kernel)) da_nil)))) (dss_one (ds_ret (de_and (de_bi call_isi a_isi (by rfl) T.b_isinstance (by decide +kernel) (da_cons (de_var (pv 0)) (da_cons (de_gty (by rfl) T.b_str (by decide +kernel)) da_nil))) (de_one (de_cmp (op_eqD hr.units) c_eq.op (de_var (pv 0)) (de_var (pv 1)) (nomark _)))))) dss_nil) (dss_one (ds_ret (de_and (de_bi call_isi a_isi (by rfl) T.b_isinstance (by decide +kernel) (da_cons (de_var (pv 0)) (da_cons (de_gty (by rfl) T.b_int (by decide +kernel)) da_nil))) (de_one (de_cmp (op_eqD hr.units) c_eq.op (de_var (pv 0)) (de_var (pv 1)) (nomark _))))))))))
theorem cal__law_alike (T : Tx K mg) (F : FnF K mg "_law_alike" s__law_alike ["_law_found", "_law_due"]) : Cal P w K mg base "_law_alike" 6 ["_law_found", "_law_due"] false d__law_alike := rec__law_alike T F 6
theorem cal__law_way (T : Tx K mg) (F : FnF K mg "_law_way" s__law_way ["_law_row", "_law_many", "_law_goal", "_law_kind"]) (C__law_taken : Cal P w K mg base "_law_taken" 1 ["_law_row", "_law_many"] false d__law_taken) : Cal P w K mg base "_law_way" 2 ["_law_row", "_law_many", "_law_goal", "_law_kind"] false d__law_way := by
  exact cal_of F sc__law_way fun f cdv A outer s H E hr => (dss_cons (ds_setO (i := 4) sc__law_way.nd rfl (by first | exact Or.inl rfl | exact Or.inr rfl) (do_lst da_nil)) (dss_cons (ds_for PassesOwn.never rfl (di_rng1 rfl T.b_range (da_cons (de_var (pv 1)) da_nil)) (dg_name (i := 5) sc__law_way.nd rfl (by first | exact Or.inl rfl | exact Or.inr rfl)) (dss_cons (ds_setLc (i := 7) rfl sc__law_way.nd rfl rfl (sw_true rfl rfl rfl (by decide +kernel)) (ow := [("_law_there", 6)]) (di_rng1 rfl T.b_range (da_cons (de_var (pv 1)) da_nil)) (blkOk_by (N := ["_law_row", "_law_many", "_law_goal", "_law_kind", "_law_found", "_law_post", "_law_there", "_law_some"]) (sc := defScope s__law_way) (by decide +kernel)) (by decide) (fun _ _ _ _ _ => (dg_name (i := 6) sc__law_way.nd rfl (by first | exact Or.inl rfl | exact Or.inr rfl))) (fun _ _ _ _ _ => (dts_one (dt_op (op_neD hr.units) c_ne.op (de_var (pv 6)) (de_var (pv 5)) (nomark _)))) (fun _ _ _ _ _ => (de_var (pv 6)))) (dss_cons (ds_set (i := 6) sc__law_way.nd rfl (by first | exact Or.inl rfl | exact Or.inr rfl) (de_ix ix_seq o_ix (de_var (pv 7)) (C__law_taken.de (hr.mono (by decide)) (by rfl) (da_cons (de_var (pv 0)) (da_cons (de_bi call_len a_len (by rfl) T.b_len (by decide +kernel) (da_cons (de_var (pv 7)) da_nil)) da_nil))) (fun _ _ => rfl))) (dss_cons (ds_if (PW.pt (dw_or (PW.pt (dw_and (dt_op (op_eqD hr.units) c_eq.op (de_var (pv 3)) de_int (nomark _)) (dw_and1 (dt_op (op_eqD hr.units) c_eq.op (C__law_taken.de (hr.mono (by decide)) (by rfl) (da_cons (de_var (pv 0)) (da_cons de_int da_nil))) de_int (nomark _))))) (dw_or1 (PW.pt (dw_and (dt_op (op_eqD hr.units) c_eq.op (de_var (pv 3)) de_int (nomark _)) (dw_and1 (dt_op (op_eqD hr.units) c_eq.op (C__law_taken.de (hr.mono (by decide)) (by rfl) (da_cons (de_var (pv 0)) (da_cons de_int da_nil))) de_int (nomark _)))))))) (dss_one (ds_set (i := 6) sc__law_way.nd rfl (by first | exact Or.inl rfl | exact Or.inr rfl) de_non)) dss_nil) (dss_cons (ds_if (PW.pt (dw_and (dt_op (op_eqD hr.units) c_eq.op (de_var (pv 3)) de_int (nomark _)) (dw_and1 (dt_op op_gt (c_int _).op (C__law_taken.de (hr.mono (by decide)) (by rfl) (da_cons (de_var (pv 0)) (da_cons de_int da_nil))) de_int (nomark _))))) (dss_one (ds_set (i := 6) sc__law_way.nd rfl (by first | exact Or.inl rfl | exact Or.inr rfl) (de_op op_mod o_mod (de_op op_add4 o_add (de_var (pv 5)) de_int) (de_var (pv 1))))) dss_nil) (dss_one (ds_mut (ps_expr (pe_bm PySem.F.plainAttrs_list PySem.F.slot_list_append PySem.F.type_list_append mt_append (pv 4) (da_cons (de_if (dt_op (op_eqD hr.units) c_eq.op (de_var (pv 5)) (de_var (pv 2)) (nomark _)) de_non (de_var (pv 6))) da_nil))) mut_append))))))) (dss_one (ds_ret (de_tupO (pe_callTy call_tuple_of (by rfl) T.b_tuple (by decide +kernel) (pa_cons (pv 4) pa_nil)))))))
theorem cal__law_web (T : Tx K mg) (F : FnF K mg "_law_web" s__law_web ["_law_row", "_law_least", "_law_most"]) (C__law_taken : Cal P w K mg base "_law_taken" 1 ["_law_row", "_law_many"] false d__law_taken) (C__law_way : Cal P w K mg base "_law_way" 2 ["_law_row", "_law_many", "_law_goal", "_law_kind"] false d__law_way) : Cal P w K mg base "_law_web" 3 ["_law_row", "_law_least", "_law_most"] false d__law_web := by
  exact cal_of F sc__law_web fun f cdv A outer s H E hr => (dss_cons (ds_set (i := 3) sc__law_web.nd rfl (by first | exact Or.inl rfl | exact Or.inr rfl) (de_op op_add4 o_add (de_var (pv 1)) (C__law_taken.de (hr.mono (by decide)) (by rfl) (da_cons (de_var (pv 0)) (da_cons (de_op op_add4 o_add (de_op op_sub o_sub (de_var (pv 2)) (de_var (pv 1))) de_int) da_nil))))) (dss_cons (ds_set (i := 4) sc__law_web.nd rfl (by first | exact Or.inl rfl | exact Or.inr rfl) (de_ix ix_seq o_ix (de_of (do_lst (da_cons de_int (da_cons de_int (da_cons de_int da_nil))))) (C__law_taken.de (hr.mono (by decide)) (by rfl) (da_cons (de_var (pv 0)) (da_cons de_int da_nil))) (fun _ _ => rfl))) (dss_cons (ds_setLc (i := 5) rfl sc__law_web.nd rfl rfl (sw_true rfl rfl rfl (by decide +kernel)) (ow := [("_law_post", 6)]) (di_rng2 rfl T.b_range (da_cons de_int (da_cons (de_var (pv 3)) da_nil))) (blkOk_by (N := ["_law_row", "_law_least", "_law_most", "_law_many", "_law_often", "_law_silent", "_law_post", "_law_goal"]) (sc := defScope s__law_web) (by decide +kernel)) (by decide) (fun _ _ _ _ _ => (dg_name (i := 6) sc__law_web.nd rfl (by first | exact Or.inl rfl | exact Or.inr rfl))) (fun _ _ _ _ _ => (dts_one (dt_op (op_eqD hr.units) c_eq.op (C__law_taken.de (hr.mono (by decide)) (by rfl) (da_cons (de_var (pv 0)) (da_cons (de_var (pv 4)) da_nil))) de_int (nomark _)))) (fun _ _ _ _ _ => (de_var (pv 6)))) (dss_one (ds_ret (de_tup (da_cons (de_var (pv 3)) (da_cons (de_bt call_tuple_of a_tuple (by rfl) T.b_tuple (by decide +kernel) (da_cons (de_var (pv 5)) da_nil)) (da_cons (de_bt call_tuple_of a_tuple (by rfl) T.b_tuple (by decide +kernel) (da_cons (de_of (do_lc rfl sc__law_web.nd (ow := [("_law_goal", 7)]) (di_rng2 rfl T.b_range (da_cons de_int (da_cons (de_var (pv 3)) da_nil))) (blkOk_by (N := ["_law_row", "_law_least", "_law_most", "_law_many", "_law_often", "_law_silent", "_law_post", "_law_goal"]) (sc := defScope s__law_web) (by decide +kernel)) (by decide) (fun _ _ _ _ _ => (dg_name (i := 7) sc__law_web.nd rfl (by first | exact Or.inl rfl | exact Or.inr rfl))) (fun _ _ _ _ _ => dts_nil) (fun _ _ _ _ _ => (C__law_way.de (hr.mono (by decide)) (by rfl) (da_cons (de_var (pv 0)) (da_cons (de_var (pv 3)) (da_cons (de_var (pv 7)) (da_cons (C__law_taken.de (hr.mono (by decide)) (by rfl) (da_cons (de_var (pv 0)) (da_cons de_int da_nil))) da_nil)))))))) da_nil)) da_nil)))))))))
theorem cal__law_asked (T : Tx K mg) (F : FnF K mg "_law_asked" s__law_asked ["_law_web_here", "_law_goal", "_law_hops"]) : Cal P w K mg base "_law_asked" 1 ["_law_web_here", "_law_goal", "_law_hops"] false d__law_asked := by
  exact cal_of F sc__law_asked fun f cdv A outer s H E hr => (dss_cons (ds_asg (de_var (pv 0)) (dg_tup rfl (dgs_cons (dg_name (i := 3) sc__law_asked.nd rfl (by first | exact Or.inl rfl | exact Or.inr rfl)) (dgs_cons (dg_name (i := 4) sc__law_asked.nd rfl (by first | exact Or.inl rfl | exact Or.inr rfl)) (dgs_cons (dg_name (i := 5) sc__law_asked.nd rfl (by first | exact Or.inl rfl | exact Or.inr rfl)) dgs_nil))))) (dss_cons (ds_set (i := 6) sc__law_asked.nd rfl (by first | exact Or.inl rfl | exact Or.inr rfl) de_int) (dss_cons (ds_while 1000 PassesOwn.never (PW.pt (dw_and (dt_op op_gt (c_int _).op (de_var (pv 2)) de_int (nomark _)) (dw_and (dt_notN (de_var (pv 6))) (dw_and1 (dt_op (op_neD hr.units) c_ne.op (de_var (pv 6)) (de_var (pv 1)) (nomark _)))))) (dss_cons (ds_set (i := 6) sc__law_asked.nd rfl (by first | exact Or.inl rfl | exact Or.inr rfl) (de_ix ix_seq o_ix (de_ix ix_seq o_ix (de_var (pv 5)) (de_op op_sub o_sub (de_var (pv 1)) de_int) (fun _ _ => rfl)) (de_var (pv 6)) (fun _ _ => rfl))) (dss_one (ds_set (i := 2) sc__law_asked.nd rfl (by first | exact Or.inl rfl | exact Or.inr rfl) (de_op op_sub o_sub (de_var (pv 2)) de_int))))) (dss_cons (ds_if (PW.pt (dw_or (dt_isN (de_var (pv 6))) (dw_or1 (dt_op (op_in2 (hu65 hr)) c_in.op (de_var (pv 6)) (de_var (pv 4)) (by rfl))))) (dss_one (ds_ret (de_tup (da_cons de_str da_nil)))) dss_nil) (dss_one (ds_ret (de_if (dt_op (op_eqD hr.units) c_eq.op (de_var (pv 6)) (de_var (pv 1)) (nomark _)) (de_tup (da_cons de_str (da_cons (de_var (pv 1)) da_nil))) (de_tup (da_cons de_str (da_cons (de_var (pv 6)) da_nil))))))))))
theorem cal__law_answers (T : Tx K mg) (F : FnF K mg "_law_answers" s__law_answers ["_law_web_here", "_law_goal", "_law_hops"]) (C__law_asked : Cal P w K mg base "_law_asked" 1 ["_law_web_here", "_law_goal", "_law_hops"] false d__law_asked) : Cal P w K mg base "_law_answers" 2 ["_law_web_here", "_law_goal", "_law_hops"] true d__law_answers := by
  exact cal_of F sc__law_answers fun f cdv A outer s H E hr => (dss_one (ds_retO (do_lc rfl sc__law_answers.nd (ow := [("_law_k", 3)]) (di_rng2 rfl T.b_range (da_cons de_int (da_cons (de_op op_add4 o_add (de_var (pv 2)) de_int) da_nil))) (blkOk_by (N := ["_law_web_here", "_law_goal", "_law_hops", "_law_k"]) (sc := defScope s__law_answers) (by decide +kernel)) (by decide) (fun _ _ _ _ _ => (dg_name (i := 3) sc__law_answers.nd rfl (by first | exact Or.inl rfl | exact Or.inr rfl))) (fun _ _ _ _ _ => dts_nil) (fun _ _ _ _ _ => (C__law_asked.de (hr.mono (by decide)) (by rfl) (da_cons (de_var (pv 0)) (da_cons (de_var (pv 1)) (da_cons (de_var (pv 3)) da_nil))))))))
theorem cal__law_all_ways (T : Tx K mg) (F : FnF K mg "_law_all_ways" s__law_all_ways ["_law_many", "_law_goal"]) : Cal P w K mg base "_law_all_ways" 1 ["_law_many", "_law_goal"] false d__law_all_ways := by
  exact cal_of F sc__law_all_ways fun f cdv A outer s H E hr => (dss_cons (ds_set (i := 2) sc__law_all_ways.nd rfl (by first | exact Or.inl rfl | exact Or.inr rfl) (de_of (do_lst (da_cons (de_tup da_nil) da_nil)))) (dss_cons (ds_for PassesOwn.never rfl (di_rng1 rfl T.b_range (da_cons (de_var (pv 0)) da_nil)) (dg_name (i := 3) sc__law_all_ways.nd rfl (by first | exact Or.inl rfl | exact Or.inr rfl)) (dss_cons (ds_set (i := 4) sc__law_all_ways.nd rfl (by first | exact Or.inl rfl | exact Or.inr rfl) (de_op op_add4 o_add (de_of (do_lst (da_cons de_non da_nil))) (de_of (do_lc rfl sc__law_all_ways.nd (ow := [("_law_there", 7)]) (di_rng1 rfl T.b_range (da_cons (de_var (pv 0)) da_nil)) (blkOk_by (N := ["_law_many", "_law_goal", "_law_found", "_law_post", "_law_some", "_law_longer", "_law_way_here", "_law_there"]) (sc := defScope s__law_all_ways) (by decide +kernel)) (by decide) (fun _ _ _ _ _ => (dg_name (i := 7) sc__law_all_ways.nd rfl (by first | exact Or.inl rfl | exact Or.inr rfl))) (fun _ _ _ _ _ => (dts_one (dt_op (op_neD hr.units) c_ne.op (de_var (pv 7)) (de_var (pv 3)) (nomark _)))) (fun _ _ _ _ _ => (de_var (pv 7))))))) (dss_cons (ds_setO (i := 5) sc__law_all_ways.nd rfl (by first | exact Or.inl rfl | exact Or.inr rfl) (do_lst da_nil)) (dss_cons (ds_for PassesOwn.never rfl (di_seq (de_var (pv 2))) (dg_name (i := 6) sc__law_all_ways.nd rfl (by first | exact Or.inl rfl | exact Or.inr rfl)) (dss_one (ds_mut (ps_expr (pe_bm PySem.F.plainAttrs_list PySem.F.slot_list_extend PySem.F.type_list_extend mt_extend (pv 5) (da_cons (de_of (do_lc rfl sc__law_all_ways.nd (ow := [("_law_there", 7)]) (di_seq (de_if (dt_op (op_eqD hr.units) c_eq.op (de_var (pv 3)) (de_var (pv 1)) (nomark _)) (de_of (do_lst (da_cons de_non da_nil))) (de_var (pv 4)))) (blkOk_by (N := ["_law_many", "_law_goal", "_law_found", "_law_post", "_law_some", "_law_longer", "_law_way_here", "_law_there"]) (sc := defScope s__law_all_ways) (by decide +kernel)) (by decide) (fun _ _ _ _ _ => (dg_name (i := 7) sc__law_all_ways.nd rfl (by first | exact Or.inl rfl | exact Or.inr rfl))) (fun _ _ _ _ _ => dts_nil) (fun _ _ _ _ _ => (de_op op_add4 o_add (de_var (pv 6)) (de_tup (da_cons (de_var (pv 7)) da_nil)))))) da_nil))) mut_extend))) (dss_frz (dss_one (ds_set (i := 2) sc__law_all_ways.nd rfl (by first | exact Or.inl rfl | exact Or.inr rfl) (de_var (pv 5))))))))) (dss_one (ds_ret (de_var (pv 2))))))
theorem cal__law_all_walks (T : Tx K mg) (F : FnF K mg "_law_all_walks" s__law_all_walks ["_law_many", "_law_goal"]) : Cal P w K mg base "_law_all_walks" 1 ["_law_many", "_law_goal"] true d__law_all_walks := by
  exact cal_of F sc__law_all_walks fun f cdv A outer s H E hr => (dss_cons (ds_setO (i := 2) sc__law_all_walks.nd rfl (by first | exact Or.inl rfl | exact Or.inr rfl) (do_lst da_nil)) (dss_cons (ds_setO (i := 3) sc__law_all_walks.nd rfl (by first | exact Or.inl rfl | exact Or.inr rfl) (do_lst (da_cons (de_tup (da_cons (de_tup (da_cons de_int da_nil)) (da_cons (de_bt call_tuple_of a_tuple (by rfl) T.b_tuple (by decide +kernel) (da_cons (de_op op_add4 o_add (de_op op_add4 o_add (de_op op_mul2 o_mul (de_of (do_lst (da_cons de_str da_nil))) (de_var (pv 1))) (de_of (do_lst (da_cons de_non da_nil)))) (de_op op_mul2 o_mul (de_of (do_lst (da_cons de_str da_nil))) (de_op op_sub o_sub (de_op op_sub o_sub (de_var (pv 0)) (de_var (pv 1))) de_int))) da_nil)) da_nil))) da_nil))) (dss_cons (ds_while 100 PassesOwn.never (dt_bor (i := 3) (dt_op (op_neD hr.units) c_ne.op (de_var (pv 3)) (de_of (do_lst da_nil)) (nomark _))) (dss_cons (ds_popG (ps_asg (pe_bm0 PySem.F.plainAttrs_list PySem.F.slot_list_pop PySem.F.type_list_pop mt_pop (pv 3)) (dg_tup rfl (dgs_cons (dg_name (i := 4) sc__law_all_walks.nd rfl (by first | exact Or.inl rfl | exact Or.inr rfl)) (dgs_cons (dg_name (i := 5) sc__law_all_walks.nd rfl (by first | exact Or.inl rfl | exact Or.inr rfl)) dgs_nil))))) (dss_cons (ds_set (i := 6) sc__law_all_walks.nd rfl (by first | exact Or.inl rfl | exact Or.inr rfl) (de_ix ix_seq o_ix (de_var (pv 4)) (de_un un_neg u_neg de_int) (fun _ _ => rfl))) (dss_one (ds_for PassesOwn.never rfl (di_seq (de_op op_add4 o_add (de_of (do_lst (da_cons de_non da_nil))) (de_of (do_lc rfl sc__law_all_walks.nd (ow := [("_law_post", 9)]) (di_rng1 rfl T.b_range (da_cons (de_var (pv 0)) da_nil)) (blkOk_by (N := ["_law_many", "_law_goal", "_law_found", "_law_left", "_law_posts", "_law_way_here", "_law_here", "_law_there", "_law_longer", "_law_post"]) (sc := defScope s__law_all_walks) (by decide +kernel)) (by decide) (fun _ _ _ _ _ => (dg_name (i := 9) sc__law_all_walks.nd rfl (by first | exact Or.inl rfl | exact Or.inr rfl))) (fun _ _ _ _ _ => (dts_one (dt_op (op_neD hr.units) c_ne.op (de_var (pv 9)) (de_var (pv 6)) (nomark _)))) (fun _ _ _ _ _ => (de_var (pv 9))))))) (dg_name (i := 7) sc__law_all_walks.nd rfl (by first | exact Or.inl rfl | exact Or.inr rfl)) (dss_cons (ds_set (i := 8) sc__law_all_walks.nd rfl (by first | exact Or.inl rfl | exact Or.inr rfl) (de_op op_add4 o_add (de_op op_add4 o_add (de_sl (de_var (pv 5)) dp_none (dp_some (de_var (pv 6)))) (de_tup (da_cons (de_var (pv 7)) da_nil))) (de_sl (de_var (pv 5)) (dp_some (de_op op_add4 o_add (de_var (pv 6)) de_int)) dp_none))) (dss_one (ds_if (PW.pt (dw_or (dt_isN (de_var (pv 7))) (dw_or (dt_op (op_eqD hr.units) c_eq.op (de_var (pv 7)) (de_var (pv 1)) (nomark _)) (dw_or1 (dt_op (op_in2 (hu65 hr)) c_in.op (de_var (pv 7)) (de_var (pv 4)) (by rfl)))))) (dss_one (ds_mut (ps_expr (pe_bm PySem.F.plainAttrs_list PySem.F.slot_list_append PySem.F.type_list_append mt_append (pv 2) (da_cons (de_var (pv 8)) da_nil))) mut_append)) (dss_one (ds_mut (ps_expr (pe_bm PySem.F.plainAttrs_list PySem.F.slot_list_append PySem.F.type_list_append mt_append (pv 3) (da_cons (de_tup (da_cons (de_op op_add4 o_add (de_var (pv 4)) (de_tup (da_cons (de_var (pv 7)) da_nil))) (da_cons (de_var (pv 8)) da_nil))) da_nil))) mut_append)))))))))) (dss_one (ds_retV (pv 2))))))
theorem cal__law_some_ways (T : Tx K mg) (F : FnF K mg "_law_some_ways" s__law_some_ways ["_law_many", "_law_goal"]) (C__law_all_ways : Cal P w K mg base "_law_all_ways" 1 ["_law_many", "_law_goal"] false d__law_all_ways) (C__law_all_walks : Cal P w K mg base "_law_all_walks" 1 ["_law_many", "_law_goal"] true d__law_all_walks) : Cal P w K mg base "_law_some_ways" 2 ["_law_many", "_law_goal"] false d__law_some_ways := by
  exact cal_of F sc__law_some_ways fun f cdv A outer s H E hr => (dss_one (ds_ret (de_if (dt_op op_lt (c_int _).op (de_var (pv 0)) de_int (nomark _)) (C__law_all_ways.de (hr.mono (by decide)) (by rfl) (da_cons (de_var (pv 0)) (da_cons (de_var (pv 1)) da_nil))) (de_of (C__law_all_walks.do (hr.mono (by decide)) (by rfl) (da_cons (de_var (pv 0)) (da_cons (de_var (pv 1)) da_nil)))))))
theorem cal__law_all_silent (T : Tx K mg) (F : FnF K mg "_law_all_silent" s__law_all_silent ["_law_many"]) : Cal P w K mg base "_law_all_silent" 1 ["_law_many"] false d__law_all_silent := by
  exact cal_of F sc__law_all_silent fun f cdv A outer s H E hr => (dss_cons (ds_set (i := 1) sc__law_all_silent.nd rfl (by first | exact Or.inl rfl | exact Or.inr rfl) (de_of (do_lst (da_cons (de_tup da_nil) da_nil)))) (dss_cons (ds_for PassesOwn.never rfl (di_rng2 rfl T.b_range (da_cons de_int (da_cons (de_var (pv 0)) da_nil))) (dg_name (i := 2) sc__law_all_silent.nd rfl (by first | exact Or.inl rfl | exact Or.inr rfl)) (dss_one (ds_set (i := 1) sc__law_all_silent.nd rfl (by first | exact Or.inl rfl | exact Or.inr rfl) (de_op op_add4 o_add (de_var (pv 1)) (de_of (do_lc rfl sc__law_all_silent.nd (ow := [("_law_some", 3)]) (di_seq (de_var (pv 1))) (blkOk_by (N := ["_law_many", "_law_found", "_law_post", "_law_some"]) (sc := defScope s__law_all_silent) (by decide +kernel)) (by decide) (fun _ _ _ _ _ => (dg_name (i := 3) sc__law_all_silent.nd rfl (by first | exact Or.inl rfl | exact Or.inr rfl))) (fun _ _ _ _ _ => dts_nil) (fun _ _ _ _ _ => (de_op op_add4 o_add (de_var (pv 3)) (de_tup (da_cons (de_var (pv 2)) da_nil)))))))))) (dss_one (ds_ret (de_var (pv 1))))))
theorem cal__law_told (T : Tx K mg) (F : FnF K mg "_law_told" s__law_told ["_law_silent", "_law_way_here", "_law_goal", "_law_hops"]) (C__law_asked : Cal P w K mg base "_law_asked" 1 ["_law_web_here", "_law_goal", "_law_hops"] false d__law_asked) : Cal P w K mg base "_law_told" 2 ["_law_silent", "_law_way_here", "_law_goal", "_law_hops"] false d__law_told := by
  exact cal_of F sc__law_told fun f cdv A outer s H E hr => (dss_cons (ds_set (i := 4) sc__law_told.nd rfl (by first | exact Or.inl rfl | exact Or.inr rfl) (de_bi call_len a_len (by rfl) T.b_len (by decide +kernel) (da_cons (de_var (pv 1)) da_nil))) (dss_cons (ds_set (i := 5) sc__law_told.nd rfl (by first | exact Or.inl rfl | exact Or.inr rfl) (de_tup (da_cons (de_var (pv 4)) (da_cons (de_var (pv 0)) (da_cons (de_bt call_tuple_of a_tuple (by rfl) T.b_tuple (by decide +kernel) (da_cons (de_op op_mul2 o_mul (de_of (do_lst (da_cons (de_var (pv 1)) da_nil))) (de_op op_sub o_sub (de_var (pv 4)) de_int)) da_nil)) da_nil))))) (dss_one (ds_ret (C__law_asked.de (hr.mono (by decide)) (by rfl) (da_cons (de_var (pv 5)) (da_cons (de_var (pv 2)) (da_cons (de_var (pv 3)) da_nil))))))))
theorem cal__law_worlds (T : Tx K mg) (F : FnF K mg "_law_worlds" s__law_worlds ["_law_web_here"]) (C__law_all_silent : Cal P w K mg base "_law_all_silent" 1 ["_law_many"] false d__law_all_silent) (C__law_answers : Cal P w K mg base "_law_answers" 2 ["_law_web_here", "_law_goal", "_law_hops"] true d__law_answers) (C__law_some_ways : Cal P w K mg base "_law_some_ways" 2 ["_law_many", "_law_goal"] false d__law_some_ways) (C__law_told : Cal P w K mg base "_law_told" 2 ["_law_silent", "_law_way_here", "_law_goal", "_law_hops"] false d__law_told) : Cal P w K mg base "_law_worlds" 3 ["_law_web_here"] true d__law_worlds := by
  exact cal_of F sc__law_worlds fun f cdv A outer s H E hr => (dss_cons (ds_set (i := 1) sc__law_worlds.nd rfl (by first | exact Or.inl rfl | exact Or.inr rfl) (de_ix ix_seq o_ix (de_var (pv 0)) de_int (fun _ _ => rfl))) (dss_cons (ds_setO (i := 2) sc__law_worlds.nd rfl (by first | exact Or.inl rfl | exact Or.inr rfl) (do_lst da_nil)) (dss_cons (ds_for PassesOwn.never rfl (di_seq (C__law_all_silent.de (hr.mono (by decide)) (by rfl) (da_cons (de_var (pv 1)) da_nil))) (dg_name (i := 3) sc__law_worlds.nd rfl (by first | exact Or.inl rfl | exact Or.inr rfl)) (dss_cons (ds_setO (i := 4) sc__law_worlds.nd rfl (by first | exact Or.inl rfl | exact Or.inr rfl) (do_lst da_nil)) (dss_cons (ds_for PassesOwn.never rfl (di_rng2 rfl T.b_range (da_cons de_int (da_cons (de_var (pv 1)) da_nil))) (dg_name (i := 5) sc__law_worlds.nd rfl (by first | exact Or.inl rfl | exact Or.inr rfl)) (dss_cons (ds_set (i := 6) sc__law_worlds.nd rfl (by first | exact Or.inl rfl | exact Or.inr rfl) (de_of (C__law_answers.do (hr.mono (by decide)) (by rfl) (da_cons (de_var (pv 0)) (da_cons (de_var (pv 5)) (da_cons (de_op op_mul2 o_mul de_int (de_var (pv 1))) da_nil)))))) (dss_cons (ds_setO (i := 7) sc__law_worlds.nd rfl (by first | exact Or.inl rfl | exact Or.inr rfl) (do_lst da_nil)) (dss_cons (ds_for PassesOwn.never rfl (di_seq (C__law_some_ways.de (hr.mono (by decide)) (by rfl) (da_cons (de_var (pv 1)) (da_cons (de_var (pv 5)) da_nil)))) (dg_name (i := 8) sc__law_worlds.nd rfl (by first | exact Or.inl rfl | exact Or.inr rfl)) (dss_one (ds_if (dt_op (op_eqD hr.units) c_eq.op (C__law_told.de (hr.mono (by decide)) (by rfl) (da_cons (de_var (pv 3)) (da_cons (de_var (pv 8)) (da_cons (de_var (pv 5)) (da_cons de_int da_nil))))) (de_ix ix_seq o_ix (de_var (pv 6)) de_int (fun _ _ => rfl)) (nomark _)) (dss_one (ds_if (dt_op (op_eqD hr.units) c_eq.op (de_of (do_lc rfl sc__law_worlds.nd (ow := [("_law_k", 9)]) (di_rng1 rfl T.b_range (da_cons (de_op op_mul2 o_mul de_int (de_var (pv 1))) da_nil)) (blkOk_by (N := ["_law_web_here", "_law_many", "_law_found", "_law_silent", "_law_some", "_law_goal", "_law_due", "_law_good", "_law_way_here", "_law_k"]) (sc := defScope s__law_worlds) (by decide +kernel)) (by decide) (fun _ _ _ _ _ => (dg_name (i := 9) sc__law_worlds.nd rfl (by first | exact Or.inl rfl | exact Or.inr rfl))) (fun _ _ _ _ _ => dts_nil) (fun _ _ _ _ _ => (C__law_told.de (hr.mono (by decide)) (by rfl) (da_cons (de_var (pv 3)) (da_cons (de_var (pv 8)) (da_cons (de_var (pv 5)) (da_cons (de_op op_add4 o_add (de_var (pv 9)) de_int) da_nil)))))))) (de_var (pv 6)) (nomark _)) (dss_one (ds_mut (ps_expr (pe_bm PySem.F.plainAttrs_list PySem.F.slot_list_append PySem.F.type_list_append mt_append (pv 7) (da_cons (de_var (pv 8)) da_nil))) mut_append)) dss_nil)) dss_nil))) (dss_frz (dss_one (ds_mut (ps_expr (pe_bm PySem.F.plainAttrs_list PySem.F.slot_list_append PySem.F.type_list_append mt_append (pv 4) (da_cons (de_var (pv 7)) da_nil))) mut_append))))))) (dss_one (ds_if (dt_bor (i := 4) (dt_op (op_notInNil (hu64 hr)) c_notInN.op (de_of (do_lst da_nil)) (de_var (pv 4)) (by rfl))) (dss_frz (dss_one (ds_mut (ps_expr (pe_bm PySem.F.plainAttrs_list PySem.F.slot_list_append PySem.F.type_list_append mt_append (pv 2) (da_cons (de_tup (da_cons (de_var (pv 3)) (da_cons (de_var (pv 4)) da_nil))) da_nil))) mut_append))) dss_nil))))) (dss_one (ds_retV (pv 2))))))
def pureLaw : Prop := ∀ ns : List Int, ns.length ≤ 63 → ∃ l' rw', b_law (.val (.scr ns) :: .val .row :: List.replicate 13 .no) (some ⟨ns, 0, 0⟩) = .ok (.ret (.bl true), l', rw')
theorem ok_law {f : Addr} {fd : FuncData} (T : Tx K mg) (F : FunD K "law" "law" (defArgs s_law) (defBody s_law) (defScope s_law) [] [] f fd) (C__law_taken : Cal P w K mg base "_law_taken" 1 ["_law_row", "_law_many"] false d__law_taken) (C__law_web : Cal P w K mg base "_law_web" 3 ["_law_row", "_law_least", "_law_most"] false d__law_web) (C__law_worlds : Cal P w K mg base "_law_worlds" 3 ["_law_web_here"] true d__law_worlds) (C_quiet : CalN P w K mg base "quiet" 6 ["web"] d_quiet) (C__law_alike : Cal P w K mg base "_law_alike" 6 ["_law_found", "_law_due"] false d__law_alike) (C__law_answers : Cal P w K mg base "_law_answers" 2 ["_law_web_here", "_law_goal", "_law_hops"] true d__law_answers) (hp : pureLaw) : FnOk P w K mg base CXF 7 f fd ["_law_script"] (spL K) := by
  refine law_ok F sc_law (s0 := _) (rest := _) (den := b_law) rfl (by decide) (fun cdv A outer s H E => ?_) (fun cdv A outer s H E hr => ?_) hp
  · exact ps_set (i := 1) sc_law.nd rfl (by first | exact Or.inl rfl | exact Or.inr rfl) (pe_lst (pa_cons (pv 0) (pa_cons pe_int (pa_cons pe_int pa_nil))))
  · exact (dss_cons (ds_for PassesOwn.never rfl (di_rng1 rfl T.b_range (da_cons de_int da_nil)) (dg_name (i := 2) sc_law.nd rfl (by first | exact Or.inl rfl | exact Or.inr rfl)) (dss_cons (ds_set (i := 3) sc_law.nd rfl (by first | exact Or.inl rfl | exact Or.inr rfl) (C__law_web.de (hr.mono (by decide)) (by rfl) (da_cons (de_var (pv 1)) (da_cons de_int (da_cons (de_ix ix_seq o_ix (de_of (do_lst (da_cons de_int (da_cons de_int (da_cons de_int (da_cons de_int da_nil)))))) (C__law_taken.de (hr.mono (by decide)) (by rfl) (da_cons (de_var (pv 1)) (da_cons de_int da_nil))) (fun _ _ => rfl)) da_nil))))) (dss_cons (ds_set (i := 4) sc_law.nd rfl (by first | exact Or.inl rfl | exact Or.inr rfl) (de_of (do_lc rfl sc_law.nd (ow := [("_law_silent", 12), ("_law_ways", 13)]) (di_seq (de_of (C__law_worlds.do (hr.mono (by decide)) (by rfl) (da_cons (de_var (pv 3)) da_nil)))) (blkOk_by (N := ["_law_script", "_law_row", "_law_turn", "_law_web_here", "_law_some", "_law_posts", "_law_sure", "_law_perhaps", "_law_again", "_law_found", "_law_goal", "_law_one", "_law_silent", "_law_ways", "_law_post"]) (sc := defScope s_law) (by decide +kernel)) (by decide) (fun _ _ _ _ _ => (dg_tup rfl (dgs_cons (dg_name (i := 12) sc_law.nd rfl (by first | exact Or.inl rfl | exact Or.inr rfl)) (dgs_cons (dg_name (i := 13) sc_law.nd rfl (by first | exact Or.inl rfl | exact Or.inr rfl)) dgs_nil)))) (fun _ _ _ _ _ => dts_nil) (fun _ _ _ _ _ => (de_var (pv 12)))))) (dss_cons (ds_set (i := 5) sc_law.nd rfl (by first | exact Or.inl rfl | exact Or.inr rfl) (de_of (do_lrg1 rfl (by rfl) T.b_list (by rfl) T.b_range (de_ix ix_seq o_ix (de_var (pv 3)) de_int (fun _ _ => rfl))))) (dss_cons (ds_set (i := 6) sc_law.nd rfl (by first | exact Or.inl rfl | exact Or.inr rfl) (de_of (do_lc rfl sc_law.nd (ow := [("_law_post", 14)]) (di_seq (de_var (pv 5))) (blkOk_by (N := ["_law_script", "_law_row", "_law_turn", "_law_web_here", "_law_some", "_law_posts", "_law_sure", "_law_perhaps", "_law_again", "_law_found", "_law_goal", "_law_one", "_law_silent", "_law_ways", "_law_post"]) (sc := defScope s_law) (by decide +kernel)) (by decide) (fun _ _ _ _ _ => (dg_name (i := 14) sc_law.nd rfl (by first | exact Or.inl rfl | exact Or.inr rfl))) (fun _ _ _ _ _ => (dts_one (dt_op (op_eqD hr.units) c_eq.op (de_of (do_lc rfl sc_law.nd (ow := [("_law_silent", 12)]) (di_seq (de_var (pv 4))) (blkOk_by (by kernel_rfl)) (by decide) (fun _ _ _ _ _ => (dg_name (i := 12) sc_law.nd rfl (by first | exact Or.inl rfl | exact Or.inr rfl))) (fun _ _ _ _ _ => (dts_one (dt_op (op_notIn2 (hu65 hr)) c_notIn.op (de_var (pv 14)) (de_var (pv 12)) (by rfl)))) (fun _ _ _ _ _ => (de_var (pv 12))))) (de_of (do_lst da_nil)) (nomark _)))) (fun _ _ _ _ _ => (de_var (pv 14)))))) (dss_cons (ds_setLc (i := 7) rfl sc_law.nd rfl rfl (sw_true rfl rfl rfl (by decide +kernel)) (ow := [("_law_post", 14)]) (di_seq (de_var (pv 5))) (blkOk_by (N := ["_law_script", "_law_row", "_law_turn", "_law_web_here", "_law_some", "_law_posts", "_law_sure", "_law_perhaps", "_law_again", "_law_found", "_law_goal", "_law_one", "_law_silent", "_law_ways", "_law_post"]) (sc := defScope s_law) (by decide +kernel)) (by decide) (fun _ _ _ _ _ => (dg_name (i := 14) sc_law.nd rfl (by first | exact Or.inl rfl | exact Or.inr rfl))) (fun _ _ _ _ _ => (dts_one (PW.pt (dw_and (dt_op (op_notIn2 (hu65 hr)) c_notIn.op (de_var (pv 14)) (de_var (pv 6)) (by rfl)) (dw_and1 (dt_op (op_neD hr.units) c_ne.op (de_of (do_lc rfl sc_law.nd (ow := [("_law_silent", 12)]) (di_seq (de_var (pv 4))) (blkOk_by (by kernel_rfl)) (by decide) (fun _ _ _ _ _ => (dg_name (i := 12) sc_law.nd rfl (by first | exact Or.inl rfl | exact Or.inr rfl))) (fun _ _ _ _ _ => (dts_one (dt_op (op_in2 (hu65 hr)) c_in.op (de_var (pv 14)) (de_var (pv 12)) (by rfl)))) (fun _ _ _ _ _ => (de_var (pv 12))))) (de_of (do_lst da_nil)) (nomark _))))))) (fun _ _ _ _ _ => (de_var (pv 14)))) (dss_cons (ds_for PassesOwn.never rfl (di_rng1 rfl T.b_range (da_cons de_int da_nil)) (dg_name (i := 8) sc_law.nd rfl (by first | exact Or.inl rfl | exact Or.inr rfl)) (dss_told2 (i := 9) sc_law.nd rfl (by first | exact Or.inl rfl | exact Or.inr rfl) (C_quiet.ne (hr.mono (by decide)) (by rfl) (da_cons (de_var (pv 3)) da_nil)) (dt_not (dt_of (C__law_alike.de (hr.mono (by decide)) (by rfl) (da_cons (de_var (pv 9)) (da_cons (de_tup (da_cons (de_var (pv 6)) (da_cons (de_var (pv 7)) da_nil))) da_nil))))) (ps_expr (pe_bm PySem.F.plainAttrs_list PySem.F.slot_list_append PySem.F.type_list_append mt_append (pe_ix ix_seq (pv 9) pe_int (fun _ _ => rfl)) (pa_cons pe_int pa_nil))) (ps_expr (pe_bm PySem.F.plainAttrs_list PySem.F.slot_list_append PySem.F.type_list_append mt_append (pe_ix ix_seq (pv 9) pe_int (fun _ _ => rfl)) (pa_cons pe_int pa_nil))))) (dss_one (ds_for PassesOwn.never rfl (di_rng2 rfl T.b_range (da_cons de_int (da_cons (de_ix ix_seq o_ix (de_var (pv 3)) de_int (fun _ _ => rfl)) da_nil))) (dg_name (i := 10) sc_law.nd rfl (by first | exact Or.inl rfl | exact Or.inr rfl)) (dss_one (ds_for PassesOwn.never rfl (di_seq (de_of (C__law_answers.do (hr.mono (by decide)) (by rfl) (da_cons (de_var (pv 3)) (da_cons (de_var (pv 10)) (da_cons (de_op op_mul2 o_mul de_int (de_ix ix_seq o_ix (de_var (pv 3)) de_int (fun _ _ => rfl))) da_nil)))))) (dg_name (i := 11) sc_law.nd rfl (by first | exact Or.inl rfl | exact Or.inr rfl)) (dss_one (ds_if (PW.pt (dw_and (dt_op (op_eqD hr.units) c_eq.op (de_bi call_len a_len (by rfl) T.b_len (by decide +kernel) (da_cons (de_var (pv 11)) da_nil)) de_int (nomark _)) (dw_and1 (dt_op (op_in2 (hu65 hr)) c_in.op (de_ix ix_seq o_ix (de_var (pv 11)) de_int (fun _ _ => rfl)) (de_op op_add4 o_add (de_var (pv 6)) (de_var (pv 7))) (by rfl))))) (dss_one (ds_ret de_bl)) dss_nil))))))))))))) (dss_one (ds_ret de_bl)))
end
end K08
end
section
namespace K08
open PySem PySem.Spec L2 HD HC
open PyProof.Rows hiding St
def dd : List He.DefD := [⟨("is_many", none), "is_many", "is_many", defArgs s_is_many, defBody s_is_many, defScope s_is_many, [], []⟩,
  ⟨("is_way", none), "is_way", "is_way", defArgs s_is_way, defBody s_is_way, defScope s_is_way, [], []⟩,
  ⟨("need_web", none), "need_web", "need_web", defArgs s_need_web, defBody s_need_web, defScope s_need_web, [], []⟩,
  ⟨("steps_to", none), "steps_to", "steps_to", defArgs s_steps_to, defBody s_steps_to, defScope s_steps_to, [], []⟩,
  ⟨("posts_on", none), "posts_on", "posts_on", defArgs s_posts_on, defBody s_posts_on, defScope s_posts_on, [], []⟩,
  ⟨("answer_of", none), "answer_of", "answer_of", defArgs s_answer_of, defBody s_answer_of, defScope s_answer_of, [], []⟩,
  ⟨("answers_of", none), "answers_of", "answers_of", defArgs s_answers_of, defBody s_answers_of, defScope s_answers_of, [], []⟩,
  ⟨("with_end", none), "with_end", "with_end", defArgs s_with_end, defBody s_with_end, defScope s_with_end, [], []⟩,
  ⟨("all_ways", none), "all_ways", "all_ways", defArgs s_all_ways, defBody s_all_ways, defScope s_all_ways, [], []⟩,
  ⟨("all_silent", none), "all_silent", "all_silent", defArgs s_all_silent, defBody s_all_silent, defScope s_all_silent, [], []⟩,
  ⟨("seen_in", none), "seen_in", "seen_in", defArgs s_seen_in, defBody s_seen_in, defScope s_seen_in, [], []⟩,
  ⟨("gives", none), "gives", "gives", defArgs s_gives, defBody s_gives, defScope s_gives, [], []⟩,
  ⟨("giving", none), "giving", "giving", defArgs s_giving, defBody s_giving, defScope s_giving, [], []⟩,
  ⟨("dues_of", none), "dues_of", "dues_of", defArgs s_dues_of, defBody s_dues_of, defScope s_dues_of, [], []⟩,
  ⟨("all_worlds", none), "all_worlds", "all_worlds", defArgs s_all_worlds, defBody s_all_worlds, defScope s_all_worlds, [], []⟩,
  ⟨("quiet", none), "quiet", "quiet", defArgs s_quiet, defBody s_quiet, defScope s_quiet, [], []⟩,
  ⟨("_law_taken", none), "_law_taken", "_law_taken", defArgs s__law_taken, defBody s__law_taken, defScope s__law_taken, [], []⟩,
  ⟨("_law_alike", none), "_law_alike", "_law_alike", defArgs s__law_alike, defBody s__law_alike, defScope s__law_alike, [], []⟩,
  ⟨("_law_way", none), "_law_way", "_law_way", defArgs s__law_way, defBody s__law_way, defScope s__law_way, [], []⟩,
  ⟨("_law_web", none), "_law_web", "_law_web", defArgs s__law_web, defBody s__law_web, defScope s__law_web, [], []⟩,
  ⟨("_law_asked", none), "_law_asked", "_law_asked", defArgs s__law_asked, defBody s__law_asked, defScope s__law_asked, [], []⟩,
  ⟨("_law_answers", none), "_law_answers", "_law_answers", defArgs s__law_answers, defBody s__law_answers, defScope s__law_answers, [], []⟩,
  ⟨("_law_all_ways", none), "_law_all_ways", "_law_all_ways", defArgs s__law_all_ways, defBody s__law_all_ways, defScope s__law_all_ways, [], []⟩,
  ⟨("_law_all_walks", none), "_law_all_walks", "_law_all_walks", defArgs s__law_all_walks, defBody s__law_all_walks, defScope s__law_all_walks, [], []⟩,
  ⟨("_law_some_ways", none), "_law_some_ways", "_law_some_ways", defArgs s__law_some_ways, defBody s__law_some_ways, defScope s__law_some_ways, [], []⟩,
  ⟨("_law_all_silent", none), "_law_all_silent", "_law_all_silent", defArgs s__law_all_silent, defBody s__law_all_silent, defScope s__law_all_silent, [], []⟩,
  ⟨("_law_told", none), "_law_told", "_law_told", defArgs s__law_told, defBody s__law_told, defScope s__law_told, [], []⟩,
  ⟨("_law_worlds", none), "_law_worlds", "_law_worlds", defArgs s__law_worlds, defBody s__law_worlds, defScope s__law_worlds, [], []⟩,
  ⟨("law", none), "law", "law", defArgs s_law, defBody s_law, defScope s_law, [], []⟩]
def ff : List He.Fa := [.glo "is_many", .glo "is_way", .glo "need_web", .glo "steps_to", .glo "posts_on", .glo "answer_of", .glo "answers_of", .glo "with_end", .glo "all_ways", .glo "all_silent", .glo "seen_in", .glo "gives", .glo "giving", .glo "dues_of", .glo "all_worlds", .glo "quiet", .glo "_law_taken", .glo "_law_alike", .glo "_law_way", .glo "_law_web", .glo "_law_asked", .glo "_law_answers", .glo "_law_all_ways", .glo "_law_all_walks", .glo "_law_some_ways", .glo "_law_all_silent", .glo "_law_told", .glo "_law_worlds", .glo "law", .free "bool", .free "dict", .free "int", .free "isinstance", .free "len", .free "list", .free "max", .free "range", .free "set", .free "sorted", .free "str", .free "tuple", .int "LEAST_MANY" 2, .int "MOST_MANY" 6, .glo "NOTHING"]
abbrev Rr : PySem.W.OpenRow := PySem.W.OpenLaw.row PySem.Challenge.rw_hopmark_k08_whole_who_is_silent
def tf : List He.Defn := [("all_silent", none), ("law", none)]
def ex (K : PySem.W.Frag) : Bool := (lamsB tf K) && (lamB "all_silent" K) && (He.tupB K "NOTHING" [.str "nothing"])
abbrev hk : PySem.W.Hook := He.hookX 4 ff dd [] tf ex
def ob (s : PySem.W.SharedT) : He.AlX := He.obsX 4 ff dd [] tf ex (HandSHeadRun.getT s)
theorem ob_eq (s : PySem.W.SharedT) : ob s = hk.obs s.abs := He.obsX_eq (HandSHeadRun.getT_eq s)
theorem run (w : World) : HandSHeadRun.RunEq Rr (PySem.W.view Rr.prog [39]) hk ob 4000 ((["HopError", "BadWeb", "LEAST_MANY", "MOST_MANY", "is_many", "is_way", "need_web", "NOTHING", "steps_to", "posts_on", "answer_of", "answers_of", "all_ways", "with_end", "all_silent", "seen_in", "gives", "giving", "dues_of", "all_worlds", "quiet", "_law_taken", "_law_alike", "_law_way", "_law_web", "_law_asked", "_law_answers", "_law_all_ways", "_law_all_walks", "_law_some_ways"] : List Str) ++ (["_law_all_silent", "_law_told", "_law_worlds"] : List Str)) w := by
  intro os
  kernel_rfl
theorem ex_of {K : PySem.W.Frag} (h : ex K = true) : (lamsB tf K) = true ∧ (lamB "all_silent" K) = true ∧ (He.tupB K "NOTHING" [.str "nothing"]) = true := by
  unfold ex at h
  simpa [Bool.and_eq_true, and_assoc] using h
theorem facts (hp : pureLaw) {P : Program} {w : World} {K : PySem.W.Frag} {h : Heap} {mg : Str → Option Value} {f : Addr} (X : K.In h) (G : h.Ns mainGlobals mg) (hfa : mg ("law" : Str) = some (.ref f)) (cx : He.SaysX ff dd [] tf ex w h K) :
    ∃ fd : FuncData, (∀ (s : Shared) (v : Value), BindsTo s fd ⟨[v], []⟩ [("_law_script", v)]) ∧ ∀ base : Heap, K.In base → base.Ns mainGlobals mg → (∀ p ∈ tf.map (He.cT K), LamX.TabB base mg p.1 p.2) → FnOk P w K mg base CXF 7 f fd ["_law_script"] (spL K) := by
  have c := cx.t.d
  obtain ⟨cl, cl_all_silent, ct_NOTHING⟩ := ex_of cx.more
  have T : Tx K mg := ⟨He.free_ok X G (c.fact 29 (f := .free "bool") rfl), He.free_ok X G (c.fact 30 (f := .free "dict") rfl), He.free_ok X G (c.fact 31 (f := .free "int") rfl), He.free_ok X G (c.fact 32 (f := .free "isinstance") rfl), He.free_ok X G (c.fact 33 (f := .free "len") rfl), He.free_ok X G (c.fact 34 (f := .free "list") rfl), He.free_ok X G (c.fact 35 (f := .free "max") rfl), He.free_ok X G (c.fact 36 (f := .free "range") rfl), He.free_ok X G (c.fact 37 (f := .free "set") rfl), He.free_ok X G (c.fact 38 (f := .free "sorted") rfl), He.free_ok X G (c.fact 39 (f := .free "str") rfl), He.free_ok X G (c.fact 40 (f := .free "tuple") rfl), He.int_ok X G (c.fact 41 (f := .int "LEAST_MANY" 2) rfl), He.int_ok X G (c.fact 42 (f := .int "MOST_MANY" 6) rfl), tupC_of X G (c.fact 43 (f := .glo "NOTHING") rfl) (zs := ["nothing"]) ct_NOTHING (by decide)⟩
  have F_is_many : FnF K mg "is_many" s_is_many ["many"] := by
    obtain ⟨fd, F⟩ := c.def_ 0 (d := dd[0]'(by decide)) rfl
    exact ⟨_, fd, F, He.glo_ok X G (c.fact 0 (f := .glo "is_many") rfl), FunD.bindsN F fun _ _ _ _ _ _ us hl => match us, hl with | [_], _ => rfl⟩
  have F_is_way : FnF K mg "is_way" s_is_way ["many", "goal", "way"] := by
    obtain ⟨fd, F⟩ := c.def_ 1 (d := dd[1]'(by decide)) rfl
    exact ⟨_, fd, F, He.glo_ok X G (c.fact 1 (f := .glo "is_way") rfl), FunD.bindsN F fun _ _ _ _ _ _ us hl => match us, hl with | [_, _, _], _ => rfl⟩
  have F_need_web : FnF K mg "need_web" s_need_web ["web"] := by
    obtain ⟨fd, F⟩ := c.def_ 2 (d := dd[2]'(by decide)) rfl
    exact ⟨_, fd, F, He.glo_ok X G (c.fact 2 (f := .glo "need_web") rfl), FunD.bindsN F fun _ _ _ _ _ _ us hl => match us, hl with | [_], _ => rfl⟩
  have F_steps_to : FnF K mg "steps_to" s_steps_to ["many"] := by
    obtain ⟨fd, F⟩ := c.def_ 3 (d := dd[3]'(by decide)) rfl
    exact ⟨_, fd, F, He.glo_ok X G (c.fact 3 (f := .glo "steps_to") rfl), FunD.bindsN F fun _ _ _ _ _ _ us hl => match us, hl with | [_], _ => rfl⟩
  have F_posts_on : FnF K mg "posts_on" s_posts_on ["way", "goal", "hops"] := by
    obtain ⟨fd, F⟩ := c.def_ 4 (d := dd[4]'(by decide)) rfl
    exact ⟨_, fd, F, He.glo_ok X G (c.fact 4 (f := .glo "posts_on") rfl), FunD.bindsN F fun _ _ _ _ _ _ us hl => match us, hl with | [_, _, _], _ => rfl⟩
  have F_answer_of : FnF K mg "answer_of" s_answer_of ["silent", "goal", "here"] := by
    obtain ⟨fd, F⟩ := c.def_ 5 (d := dd[5]'(by decide)) rfl
    exact ⟨_, fd, F, He.glo_ok X G (c.fact 5 (f := .glo "answer_of") rfl), FunD.bindsN F fun _ _ _ _ _ _ us hl => match us, hl with | [_, _, _], _ => rfl⟩
  have F_answers_of : FnF K mg "answers_of" s_answers_of ["silent", "way", "goal", "hops"] := by
    obtain ⟨fd, F⟩ := c.def_ 6 (d := dd[6]'(by decide)) rfl
    exact ⟨_, fd, F, He.glo_ok X G (c.fact 6 (f := .glo "answers_of") rfl), FunD.bindsN F fun _ _ _ _ _ _ us hl => match us, hl with | [_, _, _, _], _ => rfl⟩
  have F_with_end : FnF K mg "with_end" s_with_end ["posts", "there"] := by
    obtain ⟨fd, F⟩ := c.def_ 7 (d := dd[7]'(by decide)) rfl
    exact ⟨_, fd, F, He.glo_ok X G (c.fact 7 (f := .glo "with_end") rfl), FunD.bindsN F fun _ _ _ _ _ _ us hl => match us, hl with | [_, _], _ => rfl⟩
  have F_all_ways : FnF K mg "all_ways" s_all_ways ["many", "goal"] := by
    obtain ⟨fd, F⟩ := c.def_ 8 (d := dd[8]'(by decide)) rfl
    exact ⟨_, fd, F, He.glo_ok X G (c.fact 8 (f := .glo "all_ways") rfl), FunD.bindsN F fun _ _ _ _ _ _ us hl => match us, hl with | [_, _], _ => rfl⟩
  have F_all_silent : FnC K mg "all_silent" s_all_silent ["many", "seen"] (He.cT K ("all_silent", none)).1 := by
    obtain ⟨fd, F⟩ := c.def_ 9 (d := dd[9]'(by decide)) rfl
    exact FnC.of ⟨fd, F, He.glo_ok X G (c.fact 9 (f := .glo "all_silent") rfl), FunD.bindsN F fun _ _ _ _ _ _ us hl => match us, hl with | [_, _], _ => rfl⟩
  have F_seen_in : FnF K mg "seen_in" s_seen_in ["told"] := by
    obtain ⟨fd, F⟩ := c.def_ 10 (d := dd[10]'(by decide)) rfl
    exact ⟨_, fd, F, He.glo_ok X G (c.fact 10 (f := .glo "seen_in") rfl), FunD.bindsN F fun _ _ _ _ _ _ us hl => match us, hl with | [_], _ => rfl⟩
  have F_gives : FnF K mg "gives" s_gives ["silent", "way", "goal", "due"] := by
    obtain ⟨fd, F⟩ := c.def_ 11 (d := dd[11]'(by decide)) rfl
    exact ⟨_, fd, F, He.glo_ok X G (c.fact 11 (f := .glo "gives") rfl), FunD.bindsN F fun _ _ _ _ _ _ us hl => match us, hl with | [_, _, _, _], _ => rfl⟩
  have F_giving : FnF K mg "giving" s_giving ["some", "silent", "goal", "due"] := by
    obtain ⟨fd, F⟩ := c.def_ 12 (d := dd[12]'(by decide)) rfl
    exact ⟨_, fd, F, He.glo_ok X G (c.fact 12 (f := .glo "giving") rfl), FunD.bindsN F fun _ _ _ _ _ _ us hl => match us, hl with | [_, _, _, _], _ => rfl⟩
  have F_dues_of : FnF K mg "dues_of" s_dues_of ["web"] := by
    obtain ⟨fd, F⟩ := c.def_ 13 (d := dd[13]'(by decide)) rfl
    exact ⟨_, fd, F, He.glo_ok X G (c.fact 13 (f := .glo "dues_of") rfl), FunD.bindsN F fun _ _ _ _ _ _ us hl => match us, hl with | [_], _ => rfl⟩
  have F_all_worlds : FnF K mg "all_worlds" s_all_worlds ["web"] := by
    obtain ⟨fd, F⟩ := c.def_ 14 (d := dd[14]'(by decide)) rfl
    exact ⟨_, fd, F, He.glo_ok X G (c.fact 14 (f := .glo "all_worlds") rfl), FunD.bindsN F fun _ _ _ _ _ _ us hl => match us, hl with | [_], _ => rfl⟩
  have F_quiet : FnF K mg "quiet" s_quiet ["web"] := by
    obtain ⟨fd, F⟩ := c.def_ 15 (d := dd[15]'(by decide)) rfl
    exact ⟨_, fd, F, He.glo_ok X G (c.fact 15 (f := .glo "quiet") rfl), FunD.bindsN F fun _ _ _ _ _ _ us hl => match us, hl with | [_], _ => rfl⟩
  have F__law_taken : FnF K mg "_law_taken" s__law_taken ["_law_row", "_law_many"] := by
    obtain ⟨fd, F⟩ := c.def_ 16 (d := dd[16]'(by decide)) rfl
    exact ⟨_, fd, F, He.glo_ok X G (c.fact 16 (f := .glo "_law_taken") rfl), FunD.bindsN F fun _ _ _ _ _ _ us hl => match us, hl with | [_, _], _ => rfl⟩
  have F__law_alike : FnF K mg "_law_alike" s__law_alike ["_law_found", "_law_due"] := by
    obtain ⟨fd, F⟩ := c.def_ 17 (d := dd[17]'(by decide)) rfl
    exact ⟨_, fd, F, He.glo_ok X G (c.fact 17 (f := .glo "_law_alike") rfl), FunD.bindsN F fun _ _ _ _ _ _ us hl => match us, hl with | [_, _], _ => rfl⟩
  have F__law_way : FnF K mg "_law_way" s__law_way ["_law_row", "_law_many", "_law_goal", "_law_kind"] := by
    obtain ⟨fd, F⟩ := c.def_ 18 (d := dd[18]'(by decide)) rfl
    exact ⟨_, fd, F, He.glo_ok X G (c.fact 18 (f := .glo "_law_way") rfl), FunD.bindsN F fun _ _ _ _ _ _ us hl => match us, hl with | [_, _, _, _], _ => rfl⟩
  have F__law_web : FnF K mg "_law_web" s__law_web ["_law_row", "_law_least", "_law_most"] := by
    obtain ⟨fd, F⟩ := c.def_ 19 (d := dd[19]'(by decide)) rfl
    exact ⟨_, fd, F, He.glo_ok X G (c.fact 19 (f := .glo "_law_web") rfl), FunD.bindsN F fun _ _ _ _ _ _ us hl => match us, hl with | [_, _, _], _ => rfl⟩
  have F__law_asked : FnF K mg "_law_asked" s__law_asked ["_law_web_here", "_law_goal", "_law_hops"] := by
    obtain ⟨fd, F⟩ := c.def_ 20 (d := dd[20]'(by decide)) rfl
    exact ⟨_, fd, F, He.glo_ok X G (c.fact 20 (f := .glo "_law_asked") rfl), FunD.bindsN F fun _ _ _ _ _ _ us hl => match us, hl with | [_, _, _], _ => rfl⟩
  have F__law_answers : FnF K mg "_law_answers" s__law_answers ["_law_web_here", "_law_goal", "_law_hops"] := by
    obtain ⟨fd, F⟩ := c.def_ 21 (d := dd[21]'(by decide)) rfl
    exact ⟨_, fd, F, He.glo_ok X G (c.fact 21 (f := .glo "_law_answers") rfl), FunD.bindsN F fun _ _ _ _ _ _ us hl => match us, hl with | [_, _, _], _ => rfl⟩
  have F__law_all_ways : FnF K mg "_law_all_ways" s__law_all_ways ["_law_many", "_law_goal"] := by
    obtain ⟨fd, F⟩ := c.def_ 22 (d := dd[22]'(by decide)) rfl
    exact ⟨_, fd, F, He.glo_ok X G (c.fact 22 (f := .glo "_law_all_ways") rfl), FunD.bindsN F fun _ _ _ _ _ _ us hl => match us, hl with | [_, _], _ => rfl⟩
  have F__law_all_walks : FnF K mg "_law_all_walks" s__law_all_walks ["_law_many", "_law_goal"] := by
    obtain ⟨fd, F⟩ := c.def_ 23 (d := dd[23]'(by decide)) rfl
    exact ⟨_, fd, F, He.glo_ok X G (c.fact 23 (f := .glo "_law_all_walks") rfl), FunD.bindsN F fun _ _ _ _ _ _ us hl => match us, hl with | [_, _], _ => rfl⟩
  have F__law_some_ways : FnF K mg "_law_some_ways" s__law_some_ways ["_law_many", "_law_goal"] := by
    obtain ⟨fd, F⟩ := c.def_ 24 (d := dd[24]'(by decide)) rfl
    exact ⟨_, fd, F, He.glo_ok X G (c.fact 24 (f := .glo "_law_some_ways") rfl), FunD.bindsN F fun _ _ _ _ _ _ us hl => match us, hl with | [_, _], _ => rfl⟩
  have F__law_all_silent : FnF K mg "_law_all_silent" s__law_all_silent ["_law_many"] := by
    obtain ⟨fd, F⟩ := c.def_ 25 (d := dd[25]'(by decide)) rfl
    exact ⟨_, fd, F, He.glo_ok X G (c.fact 25 (f := .glo "_law_all_silent") rfl), FunD.bindsN F fun _ _ _ _ _ _ us hl => match us, hl with | [_], _ => rfl⟩
  have F__law_told : FnF K mg "_law_told" s__law_told ["_law_silent", "_law_way_here", "_law_goal", "_law_hops"] := by
    obtain ⟨fd, F⟩ := c.def_ 26 (d := dd[26]'(by decide)) rfl
    exact ⟨_, fd, F, He.glo_ok X G (c.fact 26 (f := .glo "_law_told") rfl), FunD.bindsN F fun _ _ _ _ _ _ us hl => match us, hl with | [_, _, _, _], _ => rfl⟩
  have F__law_worlds : FnF K mg "_law_worlds" s__law_worlds ["_law_web_here"] := by
    obtain ⟨fd, F⟩ := c.def_ 27 (d := dd[27]'(by decide)) rfl
    exact ⟨_, fd, F, He.glo_ok X G (c.fact 27 (f := .glo "_law_worlds") rfl), FunD.bindsN F fun _ _ _ _ _ _ us hl => match us, hl with | [_], _ => rfl⟩
  obtain ⟨fd, F⟩ := c.def_ 28 (d := dd[28]'(by decide)) rfl
  have e := hfa.symm.trans (He.glo_ok X G (c.fact 28 (f := .glo "law") rfl))
  cases e
  refine ⟨fd, fun s v => FunD.bindsA (ps := ["_law_script"]) F (fun _ _ _ _ _ _ us hl => match us, hl with | [_], _ => rfl) s [v] rfl, fun base _ _ TB => ?_⟩
  have C_is_many : Cal P w K mg base "is_many" 1 ["many"] false d_is_many := cal_is_many T F_is_many
  have C_is_way : Cal P w K mg base "is_way" 1 ["many", "goal", "way"] false d_is_way := cal_is_way T F_is_way
  have C_need_web : Cal P w K mg base "need_web" 2 ["web"] false d_need_web := cal_need_web T F_need_web C_is_many C_is_way
  have C_steps_to : Cal P w K mg base "steps_to" 1 ["many"] false d_steps_to := cal_steps_to T F_steps_to
  have C_posts_on : Cal P w K mg base "posts_on" 1 ["way", "goal", "hops"] true d_posts_on := cal_posts_on T F_posts_on
  have C_answer_of : Cal P w K mg base "answer_of" 1 ["silent", "goal", "here"] false d_answer_of := cal_answer_of T F_answer_of
  have C_answers_of : Cal P w K mg base "answers_of" 2 ["silent", "way", "goal", "hops"] true d_answers_of := cal_answers_of T F_answers_of C_posts_on C_answer_of
  have C_with_end : Cal P w K mg base "with_end" 1 ["posts", "there"] true d_with_end := cal_with_end T F_with_end
  have C_all_ways : Cal P w K mg base "all_ways" 2 ["many", "goal"] true d_all_ways := cal_all_ways T F_all_ways C_with_end
  have C_all_silent : Cal P w K mg base "all_silent" 1 ["many", "seen"] false d_all_silent := cal_all_silent T F_all_silent (lamT_of cl_all_silent (TB _ (List.mem_map.mpr ⟨("all_silent", none), by decide, rfl⟩)))
  have C_seen_in : Cal P w K mg base "seen_in" 1 ["told"] true d_seen_in := cal_seen_in T F_seen_in
  have C_gives : Cal P w K mg base "gives" 3 ["silent", "way", "goal", "due"] false d_gives := cal_gives T F_gives C_answers_of
  have C_giving : Cal P w K mg base "giving" 4 ["some", "silent", "goal", "due"] true d_giving := cal_giving T F_giving C_gives
  have C_dues_of : Cal P w K mg base "dues_of" 3 ["web"] true d_dues_of := cal_dues_of T F_dues_of C_steps_to C_answers_of
  have C_all_worlds : Cal P w K mg base "all_worlds" 5 ["web"] true d_all_worlds := cal_all_worlds T F_all_worlds C_dues_of C_seen_in C_all_ways C_all_silent C_giving
  have C_quiet : CalN P w K mg base "quiet" 6 ["web"] d_quiet := cal_quiet T F_quiet C_need_web C_all_worlds
  have C__law_taken : Cal P w K mg base "_law_taken" 1 ["_law_row", "_law_many"] false d__law_taken := cal__law_taken T F__law_taken
  have C__law_alike : Cal P w K mg base "_law_alike" 6 ["_law_found", "_law_due"] false d__law_alike := cal__law_alike T F__law_alike
  have C__law_way : Cal P w K mg base "_law_way" 2 ["_law_row", "_law_many", "_law_goal", "_law_kind"] false d__law_way := cal__law_way T F__law_way C__law_taken
  have C__law_web : Cal P w K mg base "_law_web" 3 ["_law_row", "_law_least", "_law_most"] false d__law_web := cal__law_web T F__law_web C__law_taken C__law_way
  have C__law_asked : Cal P w K mg base "_law_asked" 1 ["_law_web_here", "_law_goal", "_law_hops"] false d__law_asked := cal__law_asked T F__law_asked
  have C__law_answers : Cal P w K mg base "_law_answers" 2 ["_law_web_here", "_law_goal", "_law_hops"] true d__law_answers := cal__law_answers T F__law_answers C__law_asked
  have C__law_all_ways : Cal P w K mg base "_law_all_ways" 1 ["_law_many", "_law_goal"] false d__law_all_ways := cal__law_all_ways T F__law_all_ways
  have C__law_all_walks : Cal P w K mg base "_law_all_walks" 1 ["_law_many", "_law_goal"] true d__law_all_walks := cal__law_all_walks T F__law_all_walks
  have C__law_some_ways : Cal P w K mg base "_law_some_ways" 2 ["_law_many", "_law_goal"] false d__law_some_ways := cal__law_some_ways T F__law_some_ways C__law_all_ways C__law_all_walks
  have C__law_all_silent : Cal P w K mg base "_law_all_silent" 1 ["_law_many"] false d__law_all_silent := cal__law_all_silent T F__law_all_silent
  have C__law_told : Cal P w K mg base "_law_told" 2 ["_law_silent", "_law_way_here", "_law_goal", "_law_hops"] false d__law_told := cal__law_told T F__law_told C__law_asked
  have C__law_worlds : Cal P w K mg base "_law_worlds" 3 ["_law_web_here"] true d__law_worlds := cal__law_worlds T F__law_worlds C__law_all_silent C__law_answers C__law_some_ways C__law_told
  exact ok_law T F C__law_taken C__law_web C__law_worlds C_quiet C__law_alike C__law_answers hp
end K08
end
section
/-! Plain lemmas: how readings reckon. -/
namespace HD
open PySem PySem.Spec L2

section
variable {α β : Type}
@[simp] theorem bind_ok (a : α) (f : α → R β) : (R.ok a).bind f = f a := rfl
@[simp] theorem bind_exc (x : Exn) (w : Rw) (f : α → R β) : (R.exc x w).bind f = .exc x w := rfl
@[simp] theorem bind_stuck (f : α → R β) : (R.stuck : R α).bind f = .stuck := rfl
@[simp] theorem ofO_some (a : α) (w : Rw) : ofO (some a) w = .ok (a, w) := rfl
@[simp] theorem ofO_none (w : Rw) : ofO (none : Option α) w = .stuck := rfl
@[simp] theorem noX_ok (a : α) : noX (R.ok a) = .ok a := rfl
end
def seqK (g : SM) (p : Fl × Dl × Rw) : R (Fl × Dl × Rw) := match p.1 with
  | .next => g p.2.1 p.2.2
  | x => .ok (x, p.2)
@[simp] theorem seqK_next (g : SM) (l : Dl) (rw : Rw) : seqK g (.next, l, rw) = g l rw := rfl
@[simp] theorem seqK_ret (g : SM) (d : D) (l : Dl) (rw : Rw) : seqK g (.ret d, l, rw) = .ok (.ret d, l, rw) := rfl
@[simp] theorem seqK_brk (g : SM) (l : Dl) (rw : Rw) : seqK g (.brk, l, rw) = .ok (.brk, l, rw) := rfl
@[simp] theorem seqK_cont (g : SM) (l : Dl) (rw : Rw) : seqK g (.cont, l, rw) = .ok (.cont, l, rw) := rfl
def getV (x : Option Sl) (rw : Rw) : R (D × Rw) := match x with
  | some (.val d) => .ok (d, rw)
  | _ => .stuck
@[simp] theorem getV_val (d : D) (rw : Rw) : getV (some (.val d)) rw = .ok (d, rw) := rfl
def toBK (p : D × Rw) : R (Bool × Rw) := match p.1 with
  | .bl b => .ok (b, p.2)
  | _ => .stuck
@[simp] theorem toBK_bl (b : Bool) (rw : Rw) : toBK (.bl b, rw) = .ok (b, rw) := rfl
section
variable (l : Dl) (rw : Rw)
@[simp] theorem eBin_ap (f : D → D → Option D) (g1 g2 : EM D) : eBin f g1 g2 l rw = (g1 l rw).bind fun p => (g2 l p.2).bind fun q => ofO (f p.1 q.1) q.2 := rfl
@[simp] theorem eUn_ap (f : D → Option D) (g : EM D) : eUn f g l rw = (g l rw).bind fun p => ofO (f p.1) p.2 := rfl
@[simp] theorem aNil_ap : aNil l rw = .ok ([], rw) := rfl
@[simp] theorem aCons_ap (g : EM D) (r : EM (List D)) : aCons g r l rw = (g l rw).bind fun p => (r l p.2).bind fun q => .ok (p.1 :: q.1, q.2) := rfl
@[simp] theorem eArgs_ap (f : List D → Option D) (g : EM (List D)) : eArgs f g l rw = (g l rw).bind fun p => ofO (f p.1) p.2 := rfl
@[simp] theorem eK_ap (d : D) : eK d l rw = .ok (d, rw) := rfl
@[simp] theorem eV_ap (i : Nat) : eV i l rw = getV l[i]? rw := rfl
@[simp] theorem toB_ap (g : EM D) : toB g l rw = (g l rw).bind toBK := rfl
@[simp] theorem eIf_ap (c : EM Bool) (a b : EM D) : eIf c a b l rw = (c l rw).bind fun p => if p.1 = true then a l p.2 else b l p.2 := rfl
@[simp] theorem tAnd_ap (a b : EM Bool) : tAnd' a b l rw = (a l rw).bind fun p => if p.1 = true then b l p.2 else .ok (false, p.2) := rfl
@[simp] theorem tOr_ap (a b : EM Bool) : tOr' a b l rw = (a l rw).bind fun p => if p.1 = true then .ok (true, p.2) else b l p.2 := rfl
@[simp] theorem tNot_ap (a : EM Bool) : tNot' a l rw = (a l rw).bind fun p => .ok (!p.1, p.2) := rfl
@[simp] theorem vAnd_ap (a b : EM D) : vAnd a b l rw = (a l rw).bind fun p => match p.1 with
  | .bl true => b l p.2
  | .bl false => .ok (.bl false, p.2)
  | _ => .stuck := rfl
@[simp] theorem vOr_ap (a b : EM D) : vOr a b l rw = (a l rw).bind fun p => match p.1 with
  | .bl true => .ok (.bl true, p.2)
  | .bl false => b l p.2
  | _ => .stuck := rfl
@[simp] theorem vNot_ap (a : EM D) : vNot a l rw = (a l rw).bind fun p => match p.1 with
  | .bl b => .ok (.bl (!b), p.2)
  | _ => .stuck := rfl
@[simp] theorem eChain_ap (f f' : D → D → Option D) (ga gb gc : EM D) : eChain f f' ga gb gc l rw = (ga l rw).bind fun p => (gb l p.2).bind fun q => match f p.1 q.1 with
  | some (.bl true) => (gc l q.2).bind fun t => ofO (f' q.1 t.1) t.2
  | some (.bl false) => .ok (.bl false, q.2)
  | _ => .stuck := rfl
@[simp] theorem eTup_ap (g : EM (List D)) : eTup g l rw = (g l rw).bind fun p => ofO (if p.1.length ≤ sizeLine then some (.tup p.1) else none) p.2 := rfl
@[simp] theorem eLst_ap (g : EM (List D)) : eLst g l rw = (g l rw).bind fun p => ofO (if p.1.length ≤ sizeLine then some (.lst p.1) else none) p.2 := rfl
@[simp] theorem aItems_ap (g : EM D) : aItems g l rw = (g l rw).bind fun p => ofO (itemsOf p.1) p.2 := rfl
@[simp] theorem aRng_ap (f : List D → Option (List D)) (g : EM (List D)) : aRng f g l rw = (g l rw).bind fun p => ofO (f p.1) p.2 := rfl
@[simp] theorem eCall_ap (F : FD) (g : EM (List D)) : eCall F g l rw = (g l rw).bind fun p => F p.1 p.2 := rfl
@[simp] theorem cYes_ap : cYes l rw = .ok (true, rw) := rfl
@[simp] theorem eComp_ap (g : EM (List D)) (tg : D → Dl → Option Dl) (c : EM Bool) (e : EM D) (vs : List Nat) : eComp g tg c e vs l rw = (g l rw).bind fun p => if p.1.length ≤ sizeLine then (compL tg c e (wipeD l vs) p.1 p.2).bind fun q => .ok (.lst q.1, q.2) else .stuck := rfl
@[simp] theorem eBor_ap (i : Nat) (g : EM D) : eBor i g l rw = match l[i]? with
  | some (.own (.lst ds)) => (noX (g (l.set i (.val (.lst ds))) rw)).bind fun p => if isSc p.1 = true then .ok p else .stuck
  | _ => .stuck := rfl
@[simp] theorem tBor_ap (i : Nat) (g : EM Bool) : tBor i g l rw = match l[i]? with
  | some (.own (.lst ds)) => noX (g (l.set i (.val (.lst ds))) rw)
  | _ => .stuck := rfl
@[simp] theorem eTupO_ap (i : Nat) : eTupO i l rw = match l[i]? with
  | some (.own (.lst ds)) => .ok (.tup ds, rw)
  | _ => .stuck := rfl
@[simp] theorem eCatO_ap (i : Nat) (g : EM D) : eCatO i g l rw = match l[i]? with
  | some (.own (.lst ds)) => (g l rw).bind fun p => (match p.1 with
    | .lst es => if ds.length + es.length ≤ sizeLine then .ok (.lst (ds ++ es), p.2) else .stuck
    | _ => .stuck)
  | _ => .stuck := rfl
@[simp] theorem eMeth_ap (T : String) (f : D → List D → Option D) (g : EM D) (a : EM (List D)) : eMeth T f g a l rw = (g l rw).bind fun p => if tyV' T p.1 = true then (a l p.2).bind fun q => ofO (f p.1 q.1) q.2 else .stuck := rfl
@[simp] theorem sNext_ap : sNext l rw = .ok (.next, l, rw) := rfl
@[simp] theorem sBrk_ap : sBrk l rw = .ok (.brk, l, rw) := rfl
@[simp] theorem sCont_ap : sCont l rw = .ok (.cont, l, rw) := rfl
@[simp] theorem sStuck_ap : sStuck l rw = .stuck := rfl
@[simp] theorem sSeq_ap (f g : SM) : sSeq f g l rw = (f l rw).bind (seqK g) := rfl
@[simp] theorem sSet_ap (i : Nat) (g : EM D) : sSet i g l rw = (g l rw).bind fun p => .ok (.next, l.set i (.val p.1), p.2) := rfl
@[simp] theorem sSetO_ap (i : Nat) (g : EM D) : sSetO i g l rw = (g l rw).bind fun p => .ok (.next, l.set i (.own p.1), p.2) := rfl
@[simp] theorem sExpr_ap (g : EM D) : sExpr g l rw = (g l rw).bind fun p => .ok (.next, l, p.2) := rfl
@[simp] theorem sRet_ap (g : EM D) : sRet g l rw = (g l rw).bind fun p => .ok (.ret p.1, l, p.2) := rfl
@[simp] theorem sRetN_ap : sRetN l rw = .ok (.ret .non, l, rw) := rfl
@[simp] theorem sRetV_ap (i : Nat) : sRetV i l rw = match l[i]? with
  | some (.own d) => .ok (.ret d, l, rw)
  | _ => .stuck := rfl
@[simp] theorem sIf_ap (c : EM Bool) (a b : SM) : sIf c a b l rw = (c l rw).bind fun p => if p.1 = true then a l p.2 else b l p.2 := rfl
@[simp] theorem sFrz_ap (i : Nat) : sFrz i l rw = match l[i]? with
  | some (.own d) => .ok (.next, l.set i (.val d), rw)
  | _ => .stuck := rfl
@[simp] theorem sFor_ap (g : EM (List D)) (tg : D → Dl → Option Dl) (body : SM) : sFor g tg body l rw = (g l rw).bind fun p => sLoop tg body p.1 l p.2 := rfl
@[simp] theorem sAsg_ap (g : EM D) (tg : D → Dl → Option Dl) : sAsg g tg l rw = (g l rw).bind fun p => match tg p.1 l with
  | some l' => .ok (.next, l', p.2)
  | none => .stuck := rfl
@[simp] theorem sMut_ap (T : String) (i : Nat) (f : D → List D → Option D) (g : EM (List D)) : sMut T i f g l rw = match l[i]? with
  | some (.own d) => if tyD d T = true then (g l rw).bind fun p => (match f d p.1 with
    | some d' => .ok (.next, l.set i (.own d'), p.2)
    | none => .stuck) else .stuck
  | _ => .stuck := rfl
@[simp] theorem gN_ap (i : Nat) (d : D) : gN i d l = some (l.set i (.val d)) := rfl
@[simp] theorem gsNil_ap : gsNil [] l = some l := rfl
@[simp] theorem gsCons_ap (t : D → Dl → Option Dl) (u : List D → Dl → Option Dl) (d : D) (r : List D) : gsCons t u (d :: r) l = (t d l).bind fun l1 => u r l1 := rfl
@[simp] theorem gT_ap (n : Nat) (u : List D → Dl → Option Dl) (ds : List D) : gT n u (.tup ds) l = if ds.length = n then u ds l else none := rfl
end
@[simp] theorem rng1_ap (j : Int) : rng1 [.int j] = if -1000000 ≤ j ∧ j ≤ 1000000 then some (rangeD 0 j.toNat) else none := by rw [rng1]
@[simp] theorem rng2_ap (i j : Int) : rng2 [.int i, .int j] = if (-1000000 ≤ i ∧ i ≤ 1000000) ∧ (-1000000 ≤ j ∧ j ≤ 1000000) then some (rangeD i (j - i).toNat) else none := by rw [rng2]
@[simp] theorem fAdd_int (i j : Int) : fAdd (.int i) (.int j) = some (.int (i + j)) := rfl
@[simp] theorem fSub_int (i j : Int) : fSub (.int i) (.int j) = some (.int (i - j)) := rfl
@[simp] theorem fMul_int (i j : Int) : fMul (.int i) (.int j) = if -1000000000000 ≤ j ∧ j ≤ 1000000000000 then some (.int (i * j)) else none := by rw [fMul]
@[simp] theorem fMod_int (i j : Int) : fMod (.int i) (.int j) = if 0 < j then some (.int (i % j)) else none := by rw [fMod]
@[simp] theorem fFdiv_int (i j : Int) : fFdiv (.int i) (.int j) = if 0 < j ∧ j < 1073741824 then some (.int (i / j)) else none := by rw [fFdiv]
@[simp] theorem fNeg_int (i : Int) : fNeg (.int i) = some (.int (-i)) := rfl
@[simp] theorem fCmp_int (p : Int → Int → Bool) (i j : Int) : fCmp p (.int i) (.int j) = some (.bl (p i j)) := rfl
@[simp] theorem isNon_non : isNonD .non = some (.bl true) := rfl
@[simp] theorem isNon_int (i : Int) : isNonD (.int i) = some (.bl false) := rfl
@[simp] theorem isNon_tup (i : List D) : isNonD (.tup i) = some (.bl false) := rfl
@[simp] theorem isNon_lst (i : List D) : isNonD (.lst i) = some (.bl false) := rfl
@[simp] theorem isNon_str (i : Str) : isNonD (.str i) = some (.bl false) := rfl
@[simp] theorem isNon_bl (i : Bool) : isNonD (.bl i) = some (.bl false) := rfl
@[simp] theorem notNon_non : notNonD .non = some (.bl false) := rfl
@[simp] theorem notNon_int (i : Int) : notNonD (.int i) = some (.bl true) := rfl
@[simp] theorem notNon_tup (i : List D) : notNonD (.tup i) = some (.bl true) := rfl
@[simp] theorem notNon_lst (i : List D) : notNonD (.lst i) = some (.bl true) := rfl
@[simp] theorem fLen_lst (xs : List D) : fLen [.lst xs] = some (.int xs.length) := rfl
@[simp] theorem fLen_tup (xs : List D) : fLen [.tup xs] = some (.int xs.length) := rfl
@[simp] theorem fLen_scr (xs : List Int) : fLen [.scr xs] = some (.int xs.length) := rfl
@[simp] theorem fList_lst (xs : List D) : fList [.lst xs] = some (.lst xs) := rfl
@[simp] theorem fList_tup (xs : List D) : fList [.tup xs] = some (.lst xs) := rfl
@[simp] theorem fTuple_lst (xs : List D) : fTuple [.lst xs] = some (.tup xs) := rfl
@[simp] theorem fTuple_tup (xs : List D) : fTuple [.tup xs] = some (.tup xs) := rfl
@[simp] theorem fIx_lst (xs : List D) (i : Int) : fIx (.lst xs) (.int i) = L2.atI xs i := rfl
@[simp] theorem fIx_tup (xs : List D) (i : Int) : fIx (.tup xs) (.int i) = L2.atI xs i := rfl
@[simp] theorem fIx_scr (xs : List Int) (i : Int) : fIx (.scr xs) (.int i) = (L2.atI xs i).map .int := rfl
@[simp] theorem itemsOf_lst (xs : List D) : itemsOf (.lst xs) = some xs := rfl
@[simp] theorem itemsOf_tup (xs : List D) : itemsOf (.tup xs) = some xs := rfl
@[simp] theorem fAppend_lst (ds : List D) (d : D) : fAppend (.lst ds) [d] = if ds.length < sizeLine then some (.lst (ds ++ [d])) else none := rfl
@[simp] theorem tyD_lst (ds : List D) : tyD (.lst ds) "list" = true := rfl
@[simp] theorem tyV_lst (ds : List D) : tyV' "list" (.lst ds) = true := rfl
@[simp] theorem isSc_int (i : Int) : isSc (.int i) = true := rfl
@[simp] theorem isSc_non : isSc .non = true := rfl
@[simp] theorem isSc_bl (i : Bool) : isSc (.bl i) = true := rfl
@[simp] theorem isSc_str (i : Str) : isSc (.str i) = true := rfl
theorem sl_big {n : Nat} (h : n ≤ 100000) : n ≤ sizeLine := by rw [sizeLine_eq]; omega
theorem sl_lt {n : Nat} (h : n ≤ 100000) : n < sizeLine := by rw [sizeLine_eq]; omega
@[simp] theorem rangeD_len (lo : Int) (n : Nat) : (rangeD lo n).length = n := rangeD_length
theorem rangeD_get {lo : Int} {n i : Nat} (h : i < n) : (rangeD lo n)[i]? = some (.int (lo + (i : Int))) := by
  unfold rangeD
  rw [List.getElem?_map, List.getElem?_range h]
  rfl
theorem rangeD_mem {lo : Int} {n : Nat} {d : D} (h : d ∈ rangeD lo n) : ∃ i : Nat, i < n ∧ d = .int (lo + (i : Int)) := by
  unfold rangeD at h
  obtain ⟨i, h1, h2⟩ := List.mem_map.mp h
  exact ⟨i, List.mem_range.mp h1, h2.symm⟩
theorem atI_ok {α : Type} {xs : List α} {i : Int} {j : Nat} {x : α} (h : i = (j : Int)) (e : xs[j]? = some x) : L2.atI xs i = some x := by rw [h]; exact atI_nat e
@[simp] theorem atI_zero {α : Type} (x : α) (xs : List α) : L2.atI (x :: xs) 0 = some x := atI_nat (j := 0) rfl
@[simp] theorem atI_one {α : Type} (x y : α) (xs : List α) : L2.atI (x :: y :: xs) 1 = some y := atI_nat (j := 1) rfl
@[simp] theorem atI_two {α : Type} (x y z : α) (xs : List α) : L2.atI (x :: y :: z :: xs) 2 = some z := atI_nat (j := 2) rfl

/-! ### equal things -/
@[simp] theorem eqD_int (i j : Int) : eqD (.int i) (.int j) = decide (i = j) := by unfold eqD; simp only [toPy, PyData.eqv]; exact Bool.beq_eq_decide_eq i j
@[simp] theorem eqD_str (i j : Str) : eqD (.str i) (.str j) = decide (i = j) := by unfold eqD; simp only [toPy, PyData.eqv]; exact Bool.beq_eq_decide_eq i j
@[simp] theorem eqD_bl (i j : Bool) : eqD (.bl i) (.bl j) = decide (i = j) := by unfold eqD; simp only [toPy, PyData.eqv]; exact Bool.beq_eq_decide_eq i j
@[simp] theorem eqD_non : eqD .non .non = true := by unfold eqD; simp only [toPy, PyData.eqv]
@[simp] theorem eqD_non_int (i : Int) : eqD .non (.int i) = false := by unfold eqD; simp only [toPy, PyData.eqv]
@[simp] theorem eqD_int_non (i : Int) : eqD (.int i) .non = false := by unfold eqD; simp only [toPy, PyData.eqv]
@[simp] theorem eqD_str_int (x : Str) (i : Int) : eqD (.str x) (.int i) = false := by unfold eqD; simp only [toPy, PyData.eqv]
@[simp] theorem eqD_int_str (x : Str) (i : Int) : eqD (.int i) (.str x) = false := by unfold eqD; simp only [toPy, PyData.eqv]
@[simp] theorem eqD_str_non (x : Str) : eqD (.str x) .non = false := by unfold eqD; simp only [toPy, PyData.eqv]
@[simp] theorem eqD_non_str (x : Str) : eqD .non (.str x) = false := by unfold eqD; simp only [toPy, PyData.eqv]
def eqDs : List D → List D → Bool
  | [], [] => true
  | x :: xs, y :: ys => eqD x y && eqDs xs ys
  | _, _ => false
theorem eqDs_py : ∀ xs ys : List D, PyData.eqvAll (toPys xs) (toPys ys) = eqDs xs ys
  | [], [] => by simp only [toPys, PyData.eqvAll, eqDs]
  | [], _ :: _ => by simp only [toPys, PyData.eqvAll, eqDs]
  | _ :: _, [] => by simp only [toPys, PyData.eqvAll, eqDs]
  | x :: xs, y :: ys => by simp only [toPys, PyData.eqvAll, eqDs, eqDs_py xs ys]; rfl
@[simp] theorem eqD_tup (xs ys : List D) : eqD (.tup xs) (.tup ys) = eqDs xs ys := by unfold eqD; simp only [toPy, PyData.eqv, eqDs_py]
@[simp] theorem eqD_lst (xs ys : List D) : eqD (.lst xs) (.lst ys) = eqDs xs ys := by unfold eqD; simp only [toPy, PyData.eqv, eqDs_py]
@[simp] theorem eqDs_nil : eqDs [] [] = true := by simp only [eqDs]
@[simp] theorem eqDs_cons (x y : D) (xs ys : List D) : eqDs (x :: xs) (y :: ys) = (eqD x y && eqDs xs ys) := by simp only [eqDs]
@[simp] theorem eqDs_cn (x : D) (xs : List D) : eqDs (x :: xs) [] = false := by simp only [eqDs]
@[simp] theorem eqDs_nc (x : D) (xs : List D) : eqDs [] (x :: xs) = false := by simp only [eqDs]
@[simp] theorem fit_int (n : Nat) (i : Int) : fit n (.int i) = true := by cases n <;> rfl
@[simp] theorem fit_bl (n : Nat) (i : Bool) : fit n (.bl i) = true := by cases n <;> rfl
@[simp] theorem fit_non (n : Nat) : fit n .non = true := by cases n <;> rfl
@[simp] theorem fit_str (n : Nat) (x : Str) : fit n (.str x) = PyData.strOk x := by cases n <;> rfl
@[simp] theorem fit_tup (n : Nat) (xs : List D) : fit (n + 1) (.tup xs) = xs.all (fit n) := rfl
@[simp] theorem fit_lst (n : Nat) (xs : List D) : fit (n + 1) (.lst xs) = xs.all (fit n) := rfl
theorem fit_mono : ∀ (n m : Nat) (d : D), n ≤ m → fit n d = true → fit m d = true := by
  intro n
  induction n with
  | zero =>
    intro m d _ h
    cases d <;> first | (simp at h ⊢; done) | (simp at h ⊢; exact h) | (simp [fit] at h)
  | succ n ih =>
    intro m d hm h
    obtain ⟨k, rfl⟩ : ∃ k, m = k + 1 := ⟨m - 1, by omega⟩
    cases d with
    | tup xs => simp only [fit_tup, List.all_eq_true] at h ⊢; exact fun x hx => ih k x (by omega) (h x hx)
    | lst xs => simp only [fit_lst, List.all_eq_true] at h ⊢; exact fun x hx => ih k x (by omega) (h x hx)
    | _ => first | (simp at h ⊢; done) | (simp at h ⊢; exact h) | (simp [fit] at h)
@[simp] theorem fEq_int (i j : Int) : fEq (.int i) (.int j) = some (.bl (decide (i = j))) := by unfold fEq; simp
@[simp] theorem fNe_int (i j : Int) : fNe (.int i) (.int j) = some (.bl (!decide (i = j))) := by unfold fNe; simp
@[simp] theorem fEq_bl (i j : Bool) : fEq (.bl i) (.bl j) = some (.bl (decide (i = j))) := by unfold fEq; simp
@[simp] theorem fNe_bl (i j : Bool) : fNe (.bl i) (.bl j) = some (.bl (!decide (i = j))) := by unfold fNe; simp
theorem eqD_refl : ∀ (n : Nat) (d : D), fit n d = true → eqD d d = true := by
  intro n
  induction n with
  | zero => intro d h; cases d <;> first | (simp; done) | (simp [fit] at h)
  | succ n ih =>
    intro d h
    have all : ∀ xs : List D, xs.all (fit n) = true → eqDs xs xs = true := by
      intro xs
      induction xs with
      | nil => intro _; rfl
      | cons x xs ihx => intro h; simp only [List.all_cons, Bool.and_eq_true] at h; simp [ih x h.1, ihx h.2]
    cases d with
    | tup xs => simp only [eqD_tup]; exact all xs h
    | lst xs => simp only [eqD_lst]; exact all xs h
    | _ => first | (simp; done) | (simp [fit] at h)
/-! ### comprehensions and loops -/
theorem compL_pure {tg : D → Dl → Option Dl} {c : EM Bool} {e : EM D} {lw : Dl} {rw : Rw} (b : D → Bool) (f : D → D) : ∀ ds : List D, (∀ d ∈ ds, ∃ l1, tg d lw = some l1 ∧ c l1 rw = .ok (b d, rw) ∧ (b d = true → e l1 rw = .ok (f d, rw))) → compL tg c e lw ds rw = .ok ((ds.filter b).map f, rw)
  | [], _ => rfl
  | d :: ds, h => by
    obtain ⟨l1, h1, h2, h3⟩ := h d (by simp)
    have ih := compL_pure b f ds fun x hx => h x (List.mem_cons_of_mem _ hx)
    unfold compL
    rw [h1]
    simp only [h2, noX_ok, bind_ok]
    cases hb : b d with
    | true => simp only [if_true, h3 hb, noX_ok, bind_ok, ih, List.filter_cons, hb, List.map_cons]
    | false => simp only [Bool.false_eq_true, if_false, ih, List.filter_cons, hb]
/-- a comprehension whose turns change the row -/
theorem compL_st {tg : D → Dl → Option Dl} {c : EM Bool} {e : EM D} {lw : Dl} (P : Rw → Prop) (Pd : Nat → D → Prop) : ∀ (ds : List D) (k : Nat) (rw : Rw), P rw →
    (∀ i d rw, ds[i]? = some d → P rw → ∃ l1, tg d lw = some l1 ∧ ∃ rw1 y rw2, c l1 rw = .ok (true, rw1) ∧ e l1 rw1 = .ok (y, rw2) ∧ P rw2 ∧ Pd (k + i) y) →
    ∃ ys rw', compL tg c e lw ds rw = .ok (ys, rw') ∧ P rw' ∧ ys.length = ds.length ∧ ∀ i y, ys[i]? = some y → Pd (k + i) y
  | [], k, rw, hP, _ => ⟨[], rw, rfl, hP, rfl, fun i y h => by simp at h⟩
  | d :: ds, k, rw, hP, h => by
    obtain ⟨l1, h1, rw1, y, rw2, h2, h3, h4, h5⟩ := h 0 d rw rfl hP
    obtain ⟨ys, rw', e1, e2, e3, e4⟩ := compL_st P Pd ds (k + 1) rw2 h4 fun i d' rw hd hP => by
      have := h (i + 1) d' rw (by simpa using hd) hP
      rwa [show k + (i + 1) = k + 1 + i by omega] at this
    refine ⟨y :: ys, rw', ?_, e2, by simp [e3], fun i z hz => ?_⟩
    · unfold compL
      rw [h1]
      simp only [h2, h3, noX_ok, bind_ok, if_true, e1]
    · cases i with
      | zero => simp at hz; subst hz; exact h5
      | succ i => have := e4 i z (by simpa using hz); rwa [show k + (i + 1) = k + 1 + i by omega]
/-- tests that change the row, the item itself kept -/
theorem compL_flt {tg : D → Dl → Option Dl} {c : EM Bool} {e : EM D} {lw : Dl} (P : Rw → Prop) : ∀ (ds : List D) (rw : Rw), P rw →
    (∀ d rw, d ∈ ds → P rw → ∃ l1, tg d lw = some l1 ∧ ∃ b rw1, c l1 rw = .ok (b, rw1) ∧ P rw1 ∧ e l1 rw1 = .ok (d, rw1)) →
    ∃ ys rw', compL tg c e lw ds rw = .ok (ys, rw') ∧ P rw' ∧ ys.Sublist ds
  | [], rw, hP, _ => ⟨[], rw, rfl, hP, .slnil⟩
  | d :: ds, rw, hP, h => by
    obtain ⟨l1, h1, b, rw1, h2, h3, h4⟩ := h d rw (by simp) hP
    obtain ⟨ys, rw', e1, e2, e3⟩ := compL_flt P ds rw1 h3 fun x rw hx hP => h x rw (List.mem_cons_of_mem _ hx) hP
    cases b with
    | true =>
      refine ⟨d :: ys, rw', ?_, e2, e3.cons_cons _⟩
      unfold compL
      rw [h1]
      simp only [h2, h4, noX_ok, bind_ok, if_true, e1]
    | false =>
      refine ⟨ys, rw', ?_, e2, e3.cons _⟩
      unfold compL
      rw [h1]
      simp only [h2, noX_ok, bind_ok, Bool.false_eq_true, if_false, e1]
/-- a for whose turns go on -/
theorem loop_all {tg : D → Dl → Option Dl} {body : SM} (P : Nat → Dl → Rw → Prop) : ∀ (ds : List D) (k : Nat) (l : Dl) (rw : Rw), P k l rw →
    (∀ i d l rw, ds[i]? = some d → P (k + i) l rw → ∃ l1, tg d l = some l1 ∧ ∃ l2 rw2, (body l1 rw = .ok (.next, l2, rw2) ∨ body l1 rw = .ok (.cont, l2, rw2)) ∧ P (k + i + 1) l2 rw2) →
    ∃ l' rw', sLoop tg body ds l rw = .ok (.next, l', rw') ∧ P (k + ds.length) l' rw'
  | [], k, l, rw, hP, _ => ⟨l, rw, rfl, hP⟩
  | d :: ds, k, l, rw, hP, h => by
    obtain ⟨l1, h1, l2, rw2, h2, h3⟩ := h 0 d l rw rfl hP
    obtain ⟨l', rw', e1, e2⟩ := loop_all P ds (k + 1) l2 rw2 h3 fun i d' l rw hd hP => by
      rw [show k + 1 + i = k + (i + 1) by omega] at hP ⊢
      exact h (i + 1) d' l rw (by simpa using hd) hP
    refine ⟨l', rw', ?_, by rw [List.length_cons, show k + (ds.length + 1) = k + 1 + ds.length by omega]; exact e2⟩
    unfold sLoop
    rw [h1]
    rcases h2 with h2 | h2 <;> simp only [h2, bind_ok] <;> exact e1
/-- a for that may hand back -/
theorem loop_post {tg : D → Dl → Option Dl} {body : SM} (P : Nat → Dl → Rw → Prop) (Q : R (Fl × Dl × Rw) → Prop) : ∀ (ds : List D) (k : Nat) (l : Dl) (rw : Rw), P k l rw →
    (∀ i d l rw, ds[i]? = some d → P (k + i) l rw → ∃ l1, tg d l = some l1 ∧ ((∃ l2 rw2, (body l1 rw = .ok (.next, l2, rw2) ∨ body l1 rw = .ok (.cont, l2, rw2)) ∧ P (k + i + 1) l2 rw2) ∨ ∃ z l2 rw2, body l1 rw = .ok (.ret z, l2, rw2) ∧ Q (.ok (.ret z, l2, rw2)))) →
    (∀ l rw, P (k + ds.length) l rw → Q (.ok (.next, l, rw))) → Q (sLoop tg body ds l rw)
  | [], k, l, rw, hP, _, hQ => hQ l rw hP
  | d :: ds, k, l, rw, hP, h, hQ => by
    obtain ⟨l1, h1, h2⟩ := h 0 d l rw rfl hP
    unfold sLoop
    rw [h1]
    rcases h2 with ⟨l2, rw2, h2, h3⟩ | ⟨z, l2, rw2, h2, h3⟩
    · have ih := loop_post P Q ds (k + 1) l2 rw2 h3 (fun i d' l rw hd hP => by
        rw [show k + 1 + i = k + (i + 1) by omega] at hP ⊢
        exact h (i + 1) d' l rw (by simpa using hd) hP) fun l rw hP => hQ l rw (by rw [List.length_cons, show k + (ds.length + 1) = k + 1 + ds.length by omega]; exact hP)
      rcases h2 with h2 | h2 <;> simp only [h2, bind_ok] <;> exact ih
    · simp only [h2, bind_ok]
      exact h3
end HD
end
section
/-! Plain lemmas: what a law draws. -/
namespace HC
open PySem PySem.Spec L2 HD

def RV (rw : Rw) : Prop := ∃ w, rw = some w ∧ 0 ≤ w.ix ∧ w.ns.length ≤ 63
def dFin (own : Bool) (p : Fl × Dl × Rw) : R (D × Rw) := match p.1 with
  | .ret d => .ok (d, p.2.2)
  | .next => if own = true then .stuck else .ok (.non, p.2.2)
  | _ => .stuck
@[simp] theorem dFin_ret (own : Bool) (d : D) (l : Dl) (rw : Rw) : dFin own (.ret d, l, rw) = .ok (d, rw) := rfl
@[simp] theorem dFin_next (l : Dl) (rw : Rw) : dFin false (.next, l, rw) = .ok (.non, rw) := rfl
theorem dDef0 (own : Bool) (m : Nat) (body : SM) (rw : Rw) : dDef own 0 m body [] rw = (body (List.replicate (m - 0) .no) rw).bind (dFin own) := rfl
theorem dDef1 (own : Bool) (m : Nat) (body : SM) (a0 : D) (rw : Rw) : dDef own 1 m body [a0] rw = (body (.val a0 :: List.replicate (m - 1) .no) rw).bind (dFin own) := rfl
theorem dDef2 (own : Bool) (m : Nat) (body : SM) (a0 a1 : D) (rw : Rw) : dDef own 2 m body [a0, a1] rw = (body (.val a0 :: .val a1 :: List.replicate (m - 2) .no) rw).bind (dFin own) := rfl
theorem dDef3 (own : Bool) (m : Nat) (body : SM) (a0 a1 a2 : D) (rw : Rw) : dDef own 3 m body [a0, a1, a2] rw = (body (.val a0 :: .val a1 :: .val a2 :: List.replicate (m - 3) .no) rw).bind (dFin own) := rfl
theorem dDef4 (own : Bool) (m : Nat) (body : SM) (a0 a1 a2 a3 : D) (rw : Rw) : dDef own 4 m body [a0, a1, a2, a3] rw = (body (.val a0 :: .val a1 :: .val a2 :: .val a3 :: List.replicate (m - 4) .no) rw).bind (dFin own) := rfl
theorem dDef5 (own : Bool) (m : Nat) (body : SM) (a0 a1 a2 a3 a4 : D) (rw : Rw) : dDef own 5 m body [a0, a1, a2, a3, a4] rw = (body (.val a0 :: .val a1 :: .val a2 :: .val a3 :: .val a4 :: List.replicate (m - 5) .no) rw).bind (dFin own) := rfl
@[simp] theorem eRow0 (i : Nat) (l : Dl) (w : RwS) (h : l[i]? = some (.val .row)) : eRow 0 i l (some w) = .ok (.scr w.ns, some w) := by unfold eRow; rw [h]; rfl
@[simp] theorem eRow1 (i : Nat) (l : Dl) (w : RwS) (h : l[i]? = some (.val .row)) : eRow 1 i l (some w) = .ok (.int w.ix, some w) := by unfold eRow; rw [h]; rfl
@[simp] theorem eRow2 (i : Nat) (l : Dl) (w : RwS) (h : l[i]? = some (.val .row)) : eRow 2 i l (some w) = .ok (.int w.mx, some w) := by unfold eRow; rw [h]; rfl
theorem sRow1 (i : Nat) (l : Dl) (rw : Rw) (g : EM D) (w : RwS) (z : Int) (h : l[i]? = some (.val .row)) (e : g l rw = .ok (.int z, some w)) : sRow 1 i g l rw = .ok (.next, l, some { w with ix := z }) := by unfold sRow; rw [e]; simp [h]
theorem sRow2 (i : Nat) (l : Dl) (rw : Rw) (g : EM D) (w : RwS) (z : Int) (h : l[i]? = some (.val .row)) (e : g l rw = .ok (.int z, some w)) : sRow 2 i g l rw = .ok (.next, l, some { w with mx := z }) := by unfold sRow; rw [e]; simp [h]

theorem taken_ok {rw : Rw} {n : Int} (hv : RV rw) (hn : 0 < n) : ∃ t rw', d__law_taken [.row, .int n] rw = .ok (.int t, rw') ∧ RV rw' ∧ 0 ≤ t ∧ t < n := by
  obtain ⟨w, rfl, h1, h2⟩ := hv
  unfold d__law_taken b__law_taken
  rw [dDef2]
  simp only [List.replicate, sSeq_ap]
  rw [sRow1 0 _ (some w) _ w (w.ix + 1) rfl (by simp [eRow1])]
  by_cases hc : ((w.ns.length : Nat) : Int) < w.ix + 1
  · refine ⟨(w.mx * 48271 + 11) % 2147483647 / 7 % n, some ⟨w.ns, w.ix + 1, (w.mx * 48271 + 11) % 2147483647⟩, ?_, ⟨_, rfl, by simp; omega, h2⟩, Int.emod_nonneg _ (by omega), Int.emod_lt_of_pos _ hn⟩
    simp [eRow1, eRow0, hc]
    rw [sRow2 0 _ _ _ ⟨w.ns, w.ix + 1, w.mx⟩ ((w.mx * 48271 + 11) % 2147483647) rfl (by simp [eRow2])]
    simp [eRow2, hn]
  · have hi : w.ix.toNat < w.ns.length := by omega
    refine ⟨w.ns[w.ix.toNat] % n, some ⟨w.ns, w.ix + 1, (w.mx * 48271 + w.ns[w.ix.toNat] + 11) % 2147483647⟩, ?_, ⟨_, rfl, by simp; omega, h2⟩, Int.emod_nonneg _ (by omega), Int.emod_lt_of_pos _ hn⟩
    have e : L2.atI w.ns w.ix = some w.ns[w.ix.toNat] := atI_ok (j := w.ix.toNat) (by omega) (List.getElem?_eq_getElem hi)
    simp [eRow1, eRow0, hc, e]
    rw [sRow2 0 _ _ _ ⟨w.ns, w.ix + 1, w.mx⟩ ((w.mx * 48271 + w.ns[w.ix.toNat] + 11) % 2147483647) rfl (by simp [eRow2])]
    simp [hn]

/-! ### a way -/
def dO : Option Nat → D
  | none => .non
  | some v => .int (v : Int)
@[simp] theorem dO_none : dO none = .non := rfl
@[simp] theorem dO_some (v : Nat) : dO (some v) = .int (v : Int) := rfl
def dWay (w : List (Option Nat)) : D := .tup (w.map dO)
structure WayOk (many goal : Nat) (w : List (Option Nat)) : Prop where
  len : w.length = many
  at_ : w[goal]? = some none
  go : ∀ (i v : Nat), w[i]? = some (some v) → v < many ∧ v ≠ i

def TR (g : EM Bool) (l : Dl) (rw : Rw) : Prop := ∃ b rw', g l rw = .ok (b, rw') ∧ RV rw'
theorem TR_and {a c : EM Bool} {l : Dl} {rw : Rw} (h : TR a l rw) (h2 : ∀ rw', RV rw' → TR c l rw') : TR (tAnd' a c) l rw := by
  obtain ⟨b, rw1, e, r⟩ := h
  cases b with
  | false => exact ⟨false, rw1, by simp [e], r⟩
  | true =>
    obtain ⟨b2, rw2, e2, r2⟩ := h2 rw1 r
    exact ⟨b2, rw2, by simp [e, e2], r2⟩
theorem TR_or {a c : EM Bool} {l : Dl} {rw : Rw} (h : TR a l rw) (h2 : ∀ rw', RV rw' → TR c l rw') : TR (tOr' a c) l rw := by
  obtain ⟨b, rw1, e, r⟩ := h
  cases b with
  | true => exact ⟨true, rw1, by simp [e], r⟩
  | false =>
    obtain ⟨b2, rw2, e2, r2⟩ := h2 rw1 r
    exact ⟨b2, rw2, by simp [e, e2], r2⟩
theorem TR_eqV {i : Nat} {l : Dl} {rw : Rw} {k c : Int} (hl : l[i]? = some (.val (.int k))) (r : RV rw) : TR (toB (eBin fEq (eV i) (eK (.int c)))) l rw := ⟨decide (k = c), rw, by simp [hl], r⟩
theorem TR_eqT {l : Dl} {rw : Rw} {n c : Int} (hl : l[0]? = some (.val .row)) (hn : 0 < n) (r : RV rw) : TR (toB (eBin fEq (eCall d__law_taken (aCons (eV 0) (aCons (eK (.int n)) aNil))) (eK (.int c)))) l rw := by
  obtain ⟨t, rw', e, r', _⟩ := taken_ok r hn
  exact ⟨decide (t = c), rw', by simp [hl, e], r'⟩
theorem TR_gtT {l : Dl} {rw : Rw} {n c : Int} (hl : l[0]? = some (.val .row)) (hn : 0 < n) (r : RV rw) : TR (toB (eBin fGt (eCall d__law_taken (aCons (eV 0) (aCons (eK (.int n)) aNil))) (eK (.int c)))) l rw := by
  obtain ⟨t, rw', e, r', _⟩ := taken_ok r hn
  exact ⟨decide (c < t), rw', by simp [hl, e], r'⟩
/-- numbers below n but one -/
def others (n i : Nat) : List D := (rangeD 0 n).filter fun d => !eqD d (.int (i : Int))
theorem others_get {n i j : Nat} {d : D} (h : (others n i)[j]? = some d) : ∃ v : Nat, d = .int (v : Int) ∧ v < n ∧ v ≠ i := by
  have hm := List.mem_of_getElem? h
  unfold others at hm
  obtain ⟨h1, h2⟩ := List.mem_filter.mp hm
  obtain ⟨v, hv, rfl⟩ := rangeD_mem h1
  refine ⟨v, by simp, hv, fun e => ?_⟩
  subst e
  simp at h2
theorem others_pos {n i : Nat} (hn : 2 ≤ n) : 0 < (others n i).length := by
  have key : ∀ v : Nat, v < n → v ≠ i → D.int (v : Int) ∈ others n i := fun v hv hne => by
    unfold others
    refine List.mem_filter.mpr ⟨?_, by simp; omega⟩
    unfold rangeD
    exact List.mem_map.mpr ⟨v, List.mem_range.mpr hv, by simp⟩
  by_cases h : i = 0
  · exact List.length_pos_of_mem (key 1 (by omega) (by omega))
  · exact List.length_pos_of_mem (key 0 (by omega) (by omega))
theorem others_le (n i : Nat) : (others n i).length ≤ n := by
  unfold others
  exact Nat.le_trans (List.length_filter_le _ _) (by simp)
def wayInv (many goal : Nat) (kind : Int) (k : Nat) (l : Dl) (rw : Rw) : Prop := RV rw ∧ ∃ (x5 x6 x7 : Sl) (w : List (Option Nat)), l = [.val .row, .val (.int (many : Int)), .val (.int (goal : Int)), .val (.int kind), .own (.lst (w.map dO)), x5, x6, x7] ∧ w.length = k ∧ (∀ (i v : Nat), w[i]? = some (some v) → v < many ∧ v ≠ i) ∧ (goal < k → w[goal]? = some none)
def wayBody : SM := (sSeq (sSet 7 (eComp (aRng rng1 (aCons (eV 1) aNil)) (gN 6) (toB (eBin fNe (eV 6) (eV 5))) (eV 6) [6])) (sSeq (sSet 6 (eBin fIx (eV 7) (eCall d__law_taken (aCons (eV 0) (aCons (eArgs fLen (aCons (eV 7) aNil)) aNil))))) (sSeq (sIf (tOr' (tAnd' (toB (eBin fEq (eV 3) (eK (.int 1)))) (toB (eBin fEq (eCall d__law_taken (aCons (eV 0) (aCons (eK (.int 3)) aNil))) (eK (.int 0))))) (tAnd' (toB (eBin fEq (eV 3) (eK (.int 0)))) (toB (eBin fEq (eCall d__law_taken (aCons (eV 0) (aCons (eK (.int 8)) aNil))) (eK (.int 7)))))) (sSet 6 (eK .non)) sNext) (sSeq (sIf (tAnd' (toB (eBin fEq (eV 3) (eK (.int 2)))) (toB (eBin fGt (eCall d__law_taken (aCons (eV 0) (aCons (eK (.int 3)) aNil))) (eK (.int 0))))) (sSet 6 (eBin fMod (eBin fAdd (eV 5) (eK (.int 1))) (eV 1))) sNext) (sMut "list" 4 fAppend (aCons (eIf (toB (eBin fEq (eV 5) (eV 2))) (eK .non) (eV 6)) aNil))))))
theorem way_turn {many goal : Nat} {kind : Int} (hm : 2 ≤ many ∧ many ≤ 6) (hg : goal < many) (i : Nat) (d : D) (l : Dl) (rw : Rw) (hd : (rangeD 0 many)[i]? = some d) (hP : wayInv many goal kind (0 + i) l rw) :
    ∃ l1, gN 5 d l = some l1 ∧ ∃ l2 rw2, (wayBody l1 rw = .ok (.next, l2, rw2) ∨ wayBody l1 rw = .ok (.cont, l2, rw2)) ∧ wayInv many goal kind (0 + i + 1) l2 rw2 := by
  unfold wayInv wayBody at *
  obtain ⟨r, x5, x6, x7, w, rfl, hl, h1, h2⟩ := hP
  have hi : i < many := by have := (List.getElem?_eq_some_iff.mp hd).1; simpa using this
  rw [rangeD_get hi] at hd
  cases hd
  refine ⟨_, rfl, ?_⟩
  simp only [Int.zero_add, Nat.zero_add] at hl h2 ⊢
  -- the others
  have hc : ∀ (x7 : Sl) (rw : Rw), compL (gN 6) (toB (eBin fNe (eV 6) (eV 5))) (eV 6) [.val .row, .val (.int (many : Int)), .val (.int (goal : Int)), .val (.int kind), .own (.lst (w.map dO)), .val (.int (i : Int)), .no, x7] (rangeD 0 many) rw = .ok (others many i, rw) := fun x7 rw => by
    rw [compL_pure (fun d => !eqD d (.int (i : Int))) id (rangeD 0 many) fun d hd => ?_]
    · simp [others]
    · obtain ⟨v, hv, rfl⟩ := rangeD_mem hd
      exact ⟨_, rfl, by simp, fun _ => by simp⟩
  have hlen : (others many i).length ≤ sizeLine := sl_big (Nat.le_trans (others_le _ _) (by omega))
  simp only [sSeq_ap, sSet_ap, eComp_ap, aRng_ap, aCons_ap, aNil_ap, eV_ap, List.set_cons_succ, List.set_cons_zero, List.getElem?_cons_succ, List.getElem?_cons_zero, getV_val, bind_ok, rng1_ap]
  rw [if_pos ⟨by omega, by omega⟩]
  simp only [ofO_some, bind_ok, Int.toNat_natCast, rangeD_len]
  rw [if_pos (sl_big (by omega))]
  simp only [wipeD, List.set_cons_succ, List.set_cons_zero]
  rw [hc x7]
  simp only [bind_ok, seqK_next, sSeq_ap, sSet_ap, eBin_ap, eV_ap, eCall_ap, aCons_ap, aNil_ap, eArgs_ap, List.getElem?_cons_succ, List.getElem?_cons_zero, getV_val, fLen_lst, ofO_some]
  obtain ⟨t, rwA, eA, rA, t0, t1⟩ := taken_ok r (n := ((others many i).length : Int)) (by have := others_pos (i := i) hm.1; omega)
  have ht : t.toNat < (others many i).length := by omega
  obtain ⟨v, ev, v1, v2⟩ := others_get (List.getElem?_eq_getElem ht)
  rw [eA]
  simp only [bind_ok, fIx_lst]
  rw [atI_ok (j := t.toNat) (by omega) (List.getElem?_eq_getElem ht), ev]
  simp only [ofO_some, bind_ok, seqK_next, List.set_cons_succ, List.set_cons_zero]
  -- lost?
  generalize hlv : ([.val .row, .val (.int (many : Int)), .val (.int (goal : Int)), .val (.int kind), .own (.lst (w.map dO)), .val (.int (i : Int)), .val (.int (v : Int)), .val (.lst (others many i))] : Dl) = lv
  obtain ⟨b, rwB, eB, rB⟩ : TR (tOr' (tAnd' (toB (eBin fEq (eV 3) (eK (.int 1)))) (toB (eBin fEq (eCall d__law_taken (aCons (eV 0) (aCons (eK (.int 3)) aNil))) (eK (.int 0))))) (tAnd' (toB (eBin fEq (eV 3) (eK (.int 0)))) (toB (eBin fEq (eCall d__law_taken (aCons (eV 0) (aCons (eK (.int 8)) aNil))) (eK (.int 7)))))) lv rwA := by
    subst hlv
    exact TR_or (TR_and (TR_eqV rfl rA) fun rw r => TR_eqT rfl (by decide) r) fun rw r => TR_and (TR_eqV rfl r) fun rw r => TR_eqT rfl (by decide) r
  simp only [sSeq_ap, sIf_ap, eB, bind_ok]
  obtain ⟨th, hth, eth⟩ : ∃ th : Option Nat, (∀ u, th = some u → u < many ∧ u ≠ i) ∧ (if b = true then sSet 6 (eK .non) lv rwB else sNext lv rwB) = .ok (.next, [.val .row, .val (.int (many : Int)), .val (.int (goal : Int)), .val (.int kind), .own (.lst (w.map dO)), .val (.int (i : Int)), .val (dO th), .val (.lst (others many i))], rwB) := by
    cases b with
    | true => exact ⟨none, (fun u h => by cases h), by subst hlv; simp⟩
    | false => exact ⟨some v, fun u h => (by cases h; exact ⟨v1, v2⟩), by subst hlv; simp⟩
  rw [eth]
  simp only [bind_ok, seqK_next, sSeq_ap, sIf_ap]
  generalize hlv2 : ([.val .row, .val (.int (many : Int)), .val (.int (goal : Int)), .val (.int kind), .own (.lst (w.map dO)), .val (.int (i : Int)), .val (dO th), .val (.lst (others many i))] : Dl) = lv2
  obtain ⟨b2, rwC, eC, rC⟩ : TR (tAnd' (toB (eBin fEq (eV 3) (eK (.int 2)))) (toB (eBin fGt (eCall d__law_taken (aCons (eV 0) (aCons (eK (.int 3)) aNil))) (eK (.int 0))))) lv2 rwB := by
    subst hlv2
    exact TR_and (TR_eqV rfl rB) fun rw r => TR_gtT rfl (by decide) r
  simp only [eC, bind_ok]
  obtain ⟨th2, hth2, eth2⟩ : ∃ th : Option Nat, (∀ u, th = some u → u < many ∧ u ≠ i) ∧ (if b2 = true then sSet 6 (eBin fMod (eBin fAdd (eV 5) (eK (.int 1))) (eV 1)) lv2 rwC else sNext lv2 rwC) = .ok (.next, [.val .row, .val (.int (many : Int)), .val (.int (goal : Int)), .val (.int kind), .own (.lst (w.map dO)), .val (.int (i : Int)), .val (dO th), .val (.lst (others many i))], rwC) := by
    cases b2 with
    | true =>
      refine ⟨some ((i + 1) % many), fun u h => ?_, ?_⟩
      · cases h
        refine ⟨Nat.mod_lt _ (by omega), fun e => ?_⟩
        by_cases hlt : i + 1 < many
        · rw [Nat.mod_eq_of_lt hlt] at e; omega
        · have e2 : i + 1 = many := by omega
          rw [e2, Nat.mod_self] at e; omega
      · subst hlv2
        have h0 : 0 < many := by omega
        simp [h0]
    | false => exact ⟨th, hth, by subst hlv2; simp⟩
  rw [eth2]
  have hw6 : w.length < sizeLine := sl_lt (by omega)
  have hw7 : (w.map dO).length < sizeLine := by rw [List.length_map]; exact hw6
  simp only [bind_ok, seqK_next, sMut_ap, List.getElem?_cons_succ, List.getElem?_cons_zero, tyD_lst, if_true, aCons_ap, aNil_ap, eIf_ap, toB_ap, eBin_ap, eV_ap, eK_ap, getV_val, fEq_int, ofO_some, toBK_bl]
  by_cases hgi : i = goal
  · refine ⟨_, rwC, .inl ?_, rC, .val (.int (i : Int)), .val (dO th2), .val (.lst (others many i)), w ++ [none], rfl, by simp [hl], fun j u hj => ?_, fun _ => ?_⟩
    · simp [hgi, hw6]
    · by_cases hjl : j < w.length
      · rw [List.getElem?_append_left hjl] at hj; exact h1 j u hj
      · rw [List.getElem?_append_right (by omega)] at hj
        have : j - w.length = 0 := by
          have := (List.getElem?_eq_some_iff.mp hj).1
          simp at this; omega
        rw [this] at hj; cases hj
    · rw [← hgi, ← hl]; simp
  · have hgi2 : ¬ ((i : Int) = (goal : Int)) := by omega
    refine ⟨_, rwC, .inl ?_, rC, .val (.int (i : Int)), .val (dO th2), .val (.lst (others many i)), w ++ [th2], rfl, by simp [hl], fun j u hj => ?_, fun hlt => ?_⟩
    · simp [hgi2, hw6]
    · by_cases hjl : j < w.length
      · rw [List.getElem?_append_left hjl] at hj; exact h1 j u hj
      · rw [List.getElem?_append_right (by omega)] at hj
        have e0 : j - w.length = 0 := by
          have := (List.getElem?_eq_some_iff.mp hj).1
          simp at this; omega
        rw [e0] at hj
        have e3 : th2 = some u := by simpa using hj
        have := hth2 u e3
        have ej : j = i := by omega
        rw [ej]; exact this
    · rw [List.getElem?_append_left (by omega)]
      exact h2 (by omega)
theorem way_ok {rw : Rw} {many goal : Nat} {kind : Int} (hm : 2 ≤ many ∧ many ≤ 6) (hg : goal < many) (hv : RV rw) : ∃ w rw', d__law_way [.row, .int (many : Int), .int (goal : Int), .int kind] rw = .ok (dWay w, rw') ∧ RV rw' ∧ WayOk many goal w := by
  unfold d__law_way b__law_way
  rw [dDef4]
  simp only [List.replicate, sSeq_ap, sSetO_ap, eLst_ap, aNil_ap, bind_ok, List.length_nil, Nat.zero_le, if_true, ofO_some, seqK_next, List.set_cons_succ, List.set_cons_zero, sFor_ap, aRng_ap, aCons_ap, eV_ap, List.getElem?_cons_succ, List.getElem?_cons_zero, getV_val, rng1_ap]
  rw [if_pos ⟨by omega, by omega⟩]
  simp only [ofO_some, bind_ok, Int.toNat_natCast]
  obtain ⟨l', rw', e1, r', x5, x6, x7, w, e2, hl, h1, h2⟩ := loop_all (tg := gN 5) (body := wayBody) (wayInv many goal kind) (rangeD 0 many) 0
    [.val .row, .val (.int (many : Int)), .val (.int (goal : Int)), .val (.int kind), .own (.lst []), .no, .no, .no] rw ⟨hv, .no, .no, .no, [], rfl, rfl, fun i v h => by simp at h, fun h => absurd h (Nat.not_lt_zero _)⟩ (way_turn hm hg)
  unfold wayBody at e1
  rw [e1]
  subst e2
  refine ⟨w, rw', ?_, r', ⟨by simpa using hl, h2 (by simpa using hg), h1⟩⟩
  simp [dWay]
end HC
end
section
/-! Plain lemmas: webs drawn, looked over, compared. -/
namespace HC
open PySem PySem.Spec L2 HD

/-! ### things compared with themselves -/
theorem isT_tt : isT "tuple" "tuple" = some true := by decide
theorem isT_tl : isT "tuple" "list" = some false := by decide
theorem isT_lt : isT "list" "tuple" = some false := by decide
theorem isT_ll : isT "list" "list" = some true := by decide
theorem isT_nt : isT "NoneType" "tuple" = some false := by decide
theorem isT_nl : isT "NoneType" "list" = some false := by decide
theorem isT_bt : isT "bool" "tuple" = some false := by decide
theorem isT_bl : isT "bool" "list" = some false := by decide
theorem isT_bb : isT "bool" "bool" = some true := by decide
theorem isT_it : isT "int" "tuple" = some false := by decide
theorem isT_il : isT "int" "list" = some false := by decide
theorem isT_ib : isT "int" "bool" = some false := by decide
theorem isT_is : isT "int" "str" = some false := by decide
theorem isT_ii : isT "int" "int" = some true := by decide
theorem isT_st : isT "str" "tuple" = some false := by decide
theorem isT_sl : isT "str" "list" = some false := by decide
theorem isT_sb : isT "str" "bool" = some false := by decide
theorem isT_ss : isT "str" "str" = some true := by decide
theorem fIsi_ap (d : D) (b : String) : fIsi [d, .raw (.ty b)] = (tyN d).bind fun a => (isT a b).map .bl := rfl
theorem fIsi2_ap (d : D) (b c : String) : fIsi2 b c d = (tyN d).bind fun a => (isT a b).bind fun p => (isT a c).map fun q => .bl (p || q) := rfl
@[simp] theorem fEq_nil : fEq (.lst []) (.lst []) = some (.bl true) := by unfold fEq; simp
@[simp] theorem fNe_nil : fNe (.lst []) (.lst []) = some (.bl false) := by unfold fNe; simp
theorem fEq_cn (x : D) (xs : List D) (h : fit 8 (.lst (x :: xs)) = true) : fEq (.lst (x :: xs)) (.lst []) = some (.bl false) := by unfold fEq; rw [if_pos ⟨h, by simp⟩]; simp
theorem fNe_cn (x : D) (xs : List D) (h : fit 8 (.lst (x :: xs)) = true) : fNe (.lst (x :: xs)) (.lst []) = some (.bl true) := by unfold fNe; rw [if_pos ⟨h, by simp⟩]; simp
theorem fEq_self {n : Nat} {d : D} (hn : n ≤ 8) (h : fit n d = true) : fEq d d = some (.bl true) := by
  have h8 := fit_mono n 8 d hn h
  unfold fEq
  rw [if_pos ⟨h8, h8⟩, eqD_refl 8 d h8]
theorem fNe_self {n : Nat} {d : D} (hn : n ≤ 8) (h : fit n d = true) : fNe d d = some (.bl false) := by
  have h8 := fit_mono n 8 d hn h
  unfold fNe
  rw [if_pos ⟨h8, h8⟩, eqD_refl 8 d h8]; rfl
/-- lists short enough, at every depth -/
def lenOk : Nat → D → Bool
  | n + 1, .tup xs => decide (xs.length ≤ 1000) && xs.all (lenOk n)
  | n + 1, .lst xs => decide (xs.length ≤ 1000) && xs.all (lenOk n)
  | _, .tup xs => xs.isEmpty
  | _, .lst xs => xs.isEmpty
  | _, _ => true
theorem alike_seq (self : FD) (xs : List D) (rw : Rw) (hl : xs.length ≤ 1000) (h : ∀ x ∈ xs, self [x, x] rw = .ok (.bl true, rw)) (l : Dl) (a : D) (ha : ∀ i : Nat, fIx a (.int (i : Int)) = xs[i]?) (hlen : fLen [a] = some (.int (xs.length : Nat)))
    (h0 : l[0]? = some (.val a)) (h1 : l[1]? = some (.val a)) (h2 : 2 < l.length) :
    (eBin fEq (eComp (aRng rng1 (aCons (eArgs fLen (aCons (eV 1) aNil)) aNil)) (gN 2) (tNot' (toB (eCall self (aCons (eBin fIx (eV 0) (eV 2)) (aCons (eBin fIx (eV 1) (eV 2)) aNil))))) (eV 2) [2]) (eLst aNil)) l rw = .ok (.bl true, rw) := by
  have hc : compL (gN 2) (tNot' (toB (eCall self (aCons (eBin fIx (eV 0) (eV 2)) (aCons (eBin fIx (eV 1) (eV 2)) aNil))))) (eV 2) (wipeD l [2]) (rangeD 0 xs.length) rw = .ok ([], rw) := by
    rw [compL_pure (fun _ => false) id (rangeD 0 xs.length) fun d hd => ?_]
    · simp
    · obtain ⟨i, hi, rfl⟩ := rangeD_mem hd
      refine ⟨_, rfl, ?_, fun h => by cases h⟩
      have e0 : (((wipeD l [2]).set 2 (.val (.int (0 + (i : Int)))))[0]?) = some (.val a) := by simp [wipeD, h0]
      have e1 : (((wipeD l [2]).set 2 (.val (.int (0 + (i : Int)))))[1]?) = some (.val a) := by simp [wipeD, h1]
      have e2 : (((wipeD l [2]).set 2 (.val (.int (0 + (i : Int)))))[2]?) = some (.val (.int (i : Int))) := by simp [wipeD, h2]
      have ex : xs[i]? = some xs[i] := List.getElem?_eq_getElem hi
      have hs := h xs[i] (List.getElem_mem hi)
      simp only [tNot_ap, toB_ap, eCall_ap, aCons_ap, aNil_ap, eBin_ap, eV_ap, e0, e1, e2, getV_val, bind_ok, ha, ex, ofO_some, hs, toBK_bl]
      rfl
  have hz : xs.length ≤ sizeLine := sl_big (by omega)
  simp only [eBin_ap, eComp_ap, aRng_ap, aCons_ap, aNil_ap, eArgs_ap, eV_ap, h1, getV_val, bind_ok, hlen, ofO_some, rng1_ap]
  rw [if_pos ⟨by omega, by omega⟩]
  simp only [ofO_some, bind_ok, Int.toNat_natCast, rangeD_len]
  rw [if_pos hz, hc]
  simp
theorem atI_nat_eq {xs : List D} (i : Nat) : L2.atI xs (i : Int) = xs[i]? := by
  cases h : xs[i]? with
  | some d => exact atI_nat h
  | none =>
    unfold L2.atI ixN
    have hle := List.getElem?_eq_none_iff.mp h
    rw [if_pos (by omega), if_neg (by omega)]
    rfl
theorem alike_self : ∀ (n : Nat) (d : D) (rw : Rw), fit n d = true → lenOk n d = true → r__law_alike (n + 1) [d, d] rw = .ok (.bl true, rw) := by
  intro n
  induction n with
  | zero =>
    intro d rw h hl
    unfold r__law_alike b__law_alike
    rw [dDef2]
    cases d <;> first | (simp [fit] at h; done) | skip
    case non => simp [fIsi_ap, fIsi2_ap, tyN, isT_nt, isT_nl]
    case bl b => simp [fIsi_ap, fIsi2_ap, tyN, isT_bt, isT_bl, isT_bb, isNonD]
    case int i => simp [fIsi_ap, fIsi2_ap, tyN, isT_it, isT_il, isT_ib, isT_is, isT_ii, isNonD]
    case str x =>
      have hs : PyData.strOk x = true := by simpa using h
      have he : fEq (.str x) (.str x) = some (.bl true) := fEq_self (n := 0) (by decide) (by simpa using hs)
      simp [fIsi_ap, fIsi2_ap, tyN, isT_st, isT_sl, isT_sb, isT_ss, isNonD, he]
  | succ n ih =>
    intro d rw h hl
    unfold r__law_alike b__law_alike
    rw [dDef2]
    cases d <;> first | (simp [fit] at h; done) | skip
    case non => simp [fIsi_ap, fIsi2_ap, tyN, isT_nt, isT_nl]
    case bl b => simp [fIsi_ap, fIsi2_ap, tyN, isT_bt, isT_bl, isT_bb, isNonD]
    case int i => simp [fIsi_ap, fIsi2_ap, tyN, isT_it, isT_il, isT_ib, isT_is, isT_ii, isNonD]
    case str x =>
      have hs : PyData.strOk x = true := by simpa using h
      have he : fEq (.str x) (.str x) = some (.bl true) := fEq_self (n := 0) (by decide) (by simpa using hs)
      simp [fIsi_ap, fIsi2_ap, tyN, isT_st, isT_sl, isT_sb, isT_ss, isNonD, he]
    case tup xs =>
      simp only [fit_tup, List.all_eq_true] at h
      have hl' : xs.length ≤ 1000 ∧ ∀ x ∈ xs, lenOk n x = true := by simpa [lenOk] using hl
      have hs := alike_seq (r__law_alike (n + 1)) xs rw hl'.1 (fun x hx => ih x rw (h x hx) (hl'.2 x hx)) [.val (.tup xs), .val (.tup xs), .no] (.tup xs) (fun i => atI_nat_eq i) rfl rfl rfl (by simp)
      simp only [List.replicate, sSeq_ap, sIf_ap, tOr_ap, toB_ap, eArgs_ap, aCons_ap, aNil_ap, eV_ap, eK_ap, List.getElem?_cons_succ, List.getElem?_cons_zero, getV_val, bind_ok, fIsi_ap, tyN, Option.bind_some, isT_tt, Option.map_some, ofO_some, toBK_bl, if_true, eBin_ap, fNe_bl, decide_true, Bool.not_true, Bool.false_eq_true, if_false, tNot_ap, eUn_ap, fIsi2_ap, isT_tl, Bool.or_false, sNext_ap, seqK_next, fLen_tup, fNe_int]
      rw [sRet_ap, hs]
      rfl
    case lst xs =>
      simp only [fit_lst, List.all_eq_true] at h
      have hl' : xs.length ≤ 1000 ∧ ∀ x ∈ xs, lenOk n x = true := by simpa [lenOk] using hl
      have hs := alike_seq (r__law_alike (n + 1)) xs rw hl'.1 (fun x hx => ih x rw (h x hx) (hl'.2 x hx)) [.val (.lst xs), .val (.lst xs), .no] (.lst xs) (fun i => atI_nat_eq i) rfl rfl rfl (by simp)
      simp only [List.replicate, sSeq_ap, sIf_ap, tOr_ap, toB_ap, eArgs_ap, aCons_ap, aNil_ap, eV_ap, eK_ap, List.getElem?_cons_succ, List.getElem?_cons_zero, getV_val, bind_ok, fIsi_ap, tyN, Option.bind_some, isT_lt, isT_ll, Option.map_some, ofO_some, toBK_bl, if_true, eBin_ap, fNe_bl, decide_true, Bool.not_true, Bool.false_eq_true, if_false, tNot_ap, eUn_ap, fIsi2_ap, Bool.false_or, Bool.or_true, sNext_ap, seqK_next, fLen_lst, fNe_int]
      rw [sRet_ap, hs]
      rfl
theorem alike_ok {d : D} {rw : Rw} (h : fit 5 d = true) (hl : lenOk 5 d = true) : d__law_alike [d, d] rw = .ok (.bl true, rw) := alike_self 5 d rw h hl
end HC
end
section
/-! Plain lemmas: webs. -/
namespace HC
open PySem PySem.Spec L2 HD

structure Web where
  many : Nat
  silent : List Nat
  ways : List (List (Option Nat))
def dNs (ns : List Nat) : List D := ns.map fun (n : Nat) => D.int (n : Int)
def dWeb (W : Web) : D := .tup [.int (W.many : Int), .tup (dNs W.silent), .tup (W.ways.map dWay)]
structure WebOk (W : Web) : Prop where
  lo : 2 ≤ W.many
  hi : W.many ≤ 6
  sort : W.silent.Pairwise (· < ·)
  sil : ∀ p ∈ W.silent, 1 ≤ p ∧ p < W.many
  len : W.ways.length = W.many - 1
  way : ∀ g, 1 ≤ g → g < W.many → ∃ w, W.ways[g - 1]? = some w ∧ WayOk W.many g w
theorem nodup_len {n : Nat} {l : List Nat} (h : l.Pairwise (· < ·)) (b : ∀ p ∈ l, p < n) : l.length ≤ n := by
  have h2 : ∀ (l : List Nat) (k : Nat), l.Pairwise (· < ·) → (∀ p ∈ l, k ≤ p ∧ p < n) → k ≤ n → l.length ≤ n - k := by
    intro l
    induction l with
    | nil => intro k _ _ _; simp
    | cons x xs ih =>
      intro k hp hb hk
      obtain ⟨a1, a2⟩ := List.pairwise_cons.mp hp
      have hx := hb x (by simp)
      have := ih (x + 1) a2 (fun p hp => ⟨a1 p hp, (hb p (List.mem_cons_of_mem _ hp)).2⟩) (by omega)
      simp only [List.length_cons]
      omega
  exact h2 l 0 h (fun p hp => ⟨Nat.zero_le _, b p hp⟩) (Nat.zero_le _)
theorem WebOk.silLen {W : Web} (h : WebOk W) : W.silent.length ≤ 6 := Nat.le_trans (nodup_len h.sort fun p hp => (h.sil p hp).2) h.hi
theorem fit_dO (n : Nat) (o : Option Nat) : fit n (dO o) = true := by cases o <;> simp
theorem fit_way (n : Nat) (w : List (Option Nat)) : fit (n + 1) (dWay w) = true := by simp [dWay, fit_dO]
theorem fit_dNs (n : Nat) (ns : List Nat) : (dNs ns).all (fit n) = true := by simp [dNs]
theorem fit_web (n : Nat) (W : Web) : fit (n + 3) (dWeb W) = true := by
  simp only [dWeb, fit_tup, List.all_cons, fit_int, fit_dNs, List.all_map, List.all_nil, Bool.and_true, Bool.true_and]
  simp [Function.comp_def, fit_way]
theorem rangeD_dNs (lo n : Nat) : rangeD (lo : Int) n = dNs (List.range' lo n) := by
  unfold rangeD dNs
  rw [List.range'_eq_map_range, List.map_map]
  refine List.map_congr_left fun k _ => ?_
  show D.int _ = D.int _
  congr 1
theorem eqDs_refl {n : Nat} : ∀ {xs : List D}, xs.all (fit n) = true → eqDs xs xs = true := fun {xs} h => by
  have := eqD_refl (n + 1) (.lst xs) h
  simpa using this

theorem web_ok {rw : Rw} {a b : Nat} (ha : 2 ≤ a) (hab : a ≤ b) (hb : b ≤ 6) (hv : RV rw) : ∃ W rw', d__law_web [.row, .int (a : Int), .int (b : Int)] rw = .ok (dWeb W, rw') ∧ RV rw' ∧ WebOk W ∧ a ≤ W.many ∧ W.many ≤ b := by
  unfold d__law_web b__law_web
  rw [dDef3]
  simp only [List.replicate, sSeq_ap, sSet_ap, eBin_ap, eV_ap, eCall_ap, aCons_ap, aNil_ap, eK_ap, List.getElem?_cons_succ, List.getElem?_cons_zero, getV_val, bind_ok, fSub_int, ofO_some, fAdd_int]
  obtain ⟨t, rw1, e1, r1, t0, t1⟩ := taken_ok hv (n := (b : Int) - (a : Int) + 1) (by omega)
  rw [e1]
  obtain ⟨many, hmany⟩ : ∃ many : Nat, (a : Int) + t = (many : Int) := ⟨((a : Int) + t).toNat, by omega⟩
  simp only [bind_ok, fAdd_int, ofO_some, List.set_cons_succ, List.set_cons_zero, seqK_next, sSeq_ap, sSet_ap, eBin_ap, eLst_ap, aCons_ap, aNil_ap, eK_ap, hmany, eCall_ap, eV_ap, List.getElem?_cons_succ, List.getElem?_cons_zero, getV_val]
  have hm : 2 ≤ many ∧ many ≤ 6 := by omega
  rw [if_pos (show ([D.int 2, D.int 4, D.int 99] : List D).length ≤ sizeLine from sl_big (by simp))]
  obtain ⟨t2, rw2, e2, r2, u0, u1⟩ := taken_ok r1 (n := 3) (by decide)
  simp only [ofO_some, bind_ok, e2, fIx_lst]
  obtain ⟨often, eo, ho⟩ : ∃ often : Int, L2.atI ([D.int 2, D.int 4, D.int 99] : List D) t2 = some (.int often) ∧ 0 < often := by
    have : t2 = 0 ∨ t2 = 1 ∨ t2 = 2 := by omega
    rcases this with rfl | rfl | rfl
    · exact ⟨2, by simp, by decide⟩
    · exact ⟨4, by simp, by decide⟩
    · exact ⟨99, by simp, by decide⟩
  rw [eo]
  simp only [ofO_some, bind_ok, seqK_next, List.set_cons_succ, List.set_cons_zero, sSeq_ap, sSet_ap, eComp_ap, aRng_ap, aCons_ap, aNil_ap, eK_ap, eV_ap, List.getElem?_cons_succ, List.getElem?_cons_zero, getV_val, rng2_ap]
  rw [if_pos ⟨⟨by omega, by omega⟩, by omega, by omega⟩]
  have hn : ((many : Int) - 1).toNat = many - 1 := by omega
  simp only [ofO_some, bind_ok, rangeD_len, hn]
  rw [if_pos (sl_big (by omega))]
  -- the silent ones
  obtain ⟨ys, rw3, e3, r3, s3⟩ := compL_flt (tg := gN 6) (c := toB (eBin fEq (eCall d__law_taken (aCons (eV 0) (aCons (eV 4) aNil))) (eK (.int 1)))) (e := eV 6)
    (lw := wipeD [.val .row, .val (.int (a : Int)), .val (.int (b : Int)), .val (.int (many : Int)), .val (.int often), .no, .no, .no] [6]) RV (rangeD 1 (many - 1)) rw2 r2 fun d rw hd r => by
      obtain ⟨t, rw', e, r', _⟩ := taken_ok r ho
      refine ⟨_, rfl, decide (t = 1), rw', ?_, r', ?_⟩
      · simp [wipeD, e]
      · simp [wipeD]
  rw [e3]
  obtain ⟨S, hS, rfl⟩ : ∃ S : List Nat, S.Sublist (List.range' 1 (many - 1)) ∧ ys = dNs S := by
    have h := s3
    rw [show rangeD 1 (many - 1) = dNs (List.range' 1 (many - 1)) from rangeD_dNs 1 (many - 1)] at h
    unfold dNs at h
    obtain ⟨l', h1, h2⟩ := List.sublist_map_iff.mp h
    exact ⟨l', h1, h2⟩
  have hSs : S.Pairwise (· < ·) := List.Pairwise.sublist hS (List.pairwise_lt_range' (s := 1) (n := many - 1))
  have hSm : ∀ p ∈ S, 1 ≤ p ∧ p < many := fun p hp => by
    have := hS.subset hp
    rw [List.mem_range'_1] at this
    omega
  simp only [bind_ok, seqK_next, List.set_cons_succ, List.set_cons_zero, sRet_ap, eTup_ap, aCons_ap, aNil_ap, eV_ap, eArgs_ap, eComp_ap, aRng_ap, eK_ap, List.getElem?_cons_succ, List.getElem?_cons_zero, getV_val, fTuple_lst, ofO_some, rng2_ap]
  rw [if_pos ⟨⟨by omega, by omega⟩, by omega, by omega⟩]
  simp only [ofO_some, bind_ok, rangeD_len, hn]
  rw [if_pos (sl_big (by omega))]
  obtain ⟨zs, rw4, e4, r4, l4, w4⟩ := compL_st (tg := gN 7) (c := cYes) (e := eCall d__law_way (aCons (eV 0) (aCons (eV 3) (aCons (eV 7) (aCons (eCall d__law_taken (aCons (eV 0) (aCons (eK (.int 3)) aNil))) aNil)))))
    (lw := wipeD [.val .row, .val (.int (a : Int)), .val (.int (b : Int)), .val (.int (many : Int)), .val (.int often), .val (.lst (dNs S)), .no, .no] [7]) RV (fun k y => ∃ w, y = dWay w ∧ WayOk many (k + 1) w) (rangeD 1 (many - 1)) 0 rw3 r3 fun i d rw hd r => by
      have hi : i < many - 1 := by have := (List.getElem?_eq_some_iff.mp hd).1; simpa using this
      rw [rangeD_get hi] at hd
      cases hd
      obtain ⟨t, rw1, e1, r1, _⟩ := taken_ok r (n := 3) (by decide)
      obtain ⟨w, rw2, e2, r2, hw⟩ := way_ok (kind := t) (goal := i + 1) hm (by omega) r1
      have ei : (1 : Int) + (i : Int) = ((i + 1 : Nat) : Int) := by omega
      refine ⟨_, rfl, rw, dWay w, rw2, rfl, ?_, r2, w, rfl, by rw [Nat.zero_add]; exact hw⟩
      simp only [wipeD, List.set_cons_succ, List.set_cons_zero, eCall_ap, aCons_ap, aNil_ap, eV_ap, eK_ap, List.getElem?_cons_succ, List.getElem?_cons_zero, getV_val, bind_ok, e1, ei]
      exact e2
  rw [e4]
  simp only [bind_ok, fTuple_lst, ofO_some]
  rw [if_pos (sl_big (by simp))]
  obtain ⟨ws, hws, hlw, hwo⟩ : ∃ ws : List (List (Option Nat)), zs = ws.map dWay ∧ ws.length = many - 1 ∧ ∀ i w, ws[i]? = some w → WayOk many (i + 1) w := by
    have key : ∀ (zs : List D) (k : Nat), (∀ i y, zs[i]? = some y → ∃ w, y = dWay w ∧ WayOk many (k + i + 1) w) → ∃ ws : List (List (Option Nat)), zs = ws.map dWay ∧ ∀ i w, ws[i]? = some w → WayOk many (k + i + 1) w := by
      intro zs
      induction zs with
      | nil => intro k _; exact ⟨[], rfl, fun i w h => by simp at h⟩
      | cons z zs ih =>
        intro k h
        obtain ⟨w, hz, hw⟩ := h 0 z rfl
        obtain ⟨ws, h1, h2⟩ := ih (k + 1) fun i y hy => by
          have := h (i + 1) y (by simpa using hy)
          rwa [show k + (i + 1) + 1 = k + 1 + i + 1 by omega] at this
        refine ⟨w :: ws, by rw [hz, h1]; rfl, fun i v hv => ?_⟩
        cases i with
        | zero => simp at hv; subst hv; exact hw
        | succ i => have := h2 i v (by simpa using hv); rwa [show k + (i + 1) + 1 = k + 1 + i + 1 by omega]
    obtain ⟨ws, h1, h2⟩ := key zs 0 fun i y hy => w4 i y hy
    refine ⟨ws, h1, ?_, fun i w h => by have := h2 i w h; rwa [Nat.zero_add] at this⟩
    rw [h1, List.length_map] at l4
    simpa using l4
  subst hws
  refine ⟨⟨many, S, ws⟩, rw4, rfl, r4, ⟨hm.1, hm.2, hSs, hSm, hlw, fun g h1 h2 => ?_⟩, by show a ≤ many; omega, by show many ≤ b; omega⟩
  have hg : g - 1 < ws.length := by show g - 1 < ws.length; rw [hlw]; show g - 1 < many - 1; have h2' : g < many := h2; omega
  refine ⟨ws[g - 1], List.getElem?_eq_getElem hg, ?_⟩
  have := hwo (g - 1) _ (List.getElem?_eq_getElem hg)
  rwa [show g - 1 + 1 = g by omega] at this

/-! ### webs are none refused -/
theorem sortU_id {S : List Nat} (h : S.Pairwise (· < ·)) : sortU (S.map fun (n : Nat) => (n : Int)) = S.map fun (n : Nat) => (n : Int) := by
  refine pw_uniq (pw_sortU _) ?_ fun k => mem_sortU
  rw [List.pairwise_map]
  exact h.imp fun {a b} hab => by omega
theorem toInts_dNs : ∀ S : List Nat, toInts (dNs S) = some (S.map fun (n : Nat) => (n : Int))
  | [] => rfl
  | n :: S => by
    show (toInts (dNs S)).map _ = _
    rw [toInts_dNs S]
    rfl
theorem is_way_ok {many goal : Nat} {w : List (Option Nat)} {rw : Rw} (hm : many ≤ 6) (h : WayOk many goal w) : d_is_way [.int (many : Int), .int (goal : Int), dWay w] rw = .ok (.bl true, rw) := by
  unfold d_is_way b_is_way
  rw [dDef3]
  have hat : L2.atI (w.map dO) (goal : Int) = some .non := by rw [atI_nat_eq, List.getElem?_map, h.at_]; rfl
  simp only [dWay, List.replicate, sSeq_ap, sIf_ap, tOr_ap, toB_ap, eBin_ap, eUn_ap, eArgs_ap, aCons_ap, aNil_ap, eV_ap, List.getElem?_cons_succ, List.getElem?_cons_zero, getV_val, bind_ok, fLen_tup, ofO_some, List.length_map, h.len, fNe_int, decide_true, Bool.not_true, toBK_bl, Bool.false_eq_true, if_false, fIx_tup, hat, notNon_non, sNext_ap, seqK_next, sFor_ap, aRng_ap, rng1_ap]
  rw [if_pos ⟨by omega, by omega⟩]
  simp only [ofO_some, bind_ok, Int.toNat_natCast]
  generalize hb : sSeq (sSet 4 _) _ = body
  obtain ⟨l', rw', e, r, x3, x4, e2⟩ := loop_all (tg := gN 3) (body := body) (fun _ l rw' => rw' = rw ∧ ∃ x3 x4, l = [.val (.int (many : Int)), .val (.int (goal : Int)), .val (.tup (w.map dO)), x3, x4]) (rangeD 0 many) 0
    [.val (.int (many : Int)), .val (.int (goal : Int)), .val (.tup (w.map dO)), .no, .no] rw ⟨rfl, .no, .no, rfl⟩ (by
      rintro i d l rw2 hd ⟨rfl, x3, x4, rfl⟩
      have hi : i < many := by have := (List.getElem?_eq_some_iff.mp hd).1; simpa using this
      rw [rangeD_get hi] at hd
      cases hd
      have hi2 : i < w.length := by rw [h.len]; exact hi
      have hx : L2.atI (w.map dO) (i : Int) = some (dO w[i]) := by rw [atI_nat_eq, List.getElem?_map, List.getElem?_eq_getElem hi2]; rfl
      subst hb
      refine ⟨_, rfl, _, rw2, .inl ?_, rfl, .val (.int (i : Int)), .val (dO w[i]), rfl⟩
      cases hw : w[i] with
      | none => simp [hx, hw]
      | some v =>
        obtain ⟨h1, h2⟩ := h.go i v (by rw [List.getElem?_eq_getElem hi2, hw])
        have h3 : ¬ ((v : Int) = (i : Int)) := by omega
        simp [hx, hw, h1, h3])
  subst r e2
  rw [e]
  simp
theorem need_web_ok {W : Web} {rw : Rw} (h : WebOk W) : d_need_web [dWeb W] rw = .ok (.non, rw) := by
  unfold d_need_web b_need_web
  rw [dDef1]
  have hmany : d_is_many [.int (W.many : Int)] rw = .ok (.bl true, rw) := by
    unfold d_is_many b_is_many
    rw [dDef1]
    have h1 := h.lo
    have h2 := h.hi
    have h3 : (2 : Int) ≤ (W.many : Int) := by omega
    have h4 : (W.many : Int) ≤ 6 := by omega
    simp [h3, h4]
  have hsil : eUn sortSet (eV 2) [.val (dWeb W), .val (.int (W.many : Int)), .val (.tup (dNs W.silent)), .val (.tup (W.ways.map dWay)), .no, .no] rw = .ok (.lst (dNs W.silent), rw) := by
    simp only [eUn_ap, eV_ap, List.getElem?_cons_succ, List.getElem?_cons_zero, getV_val, bind_ok]
    unfold sortSet
    simp only [toInts_dNs, Option.bind_some]
    rw [if_pos (by rw [List.length_map]; have := h.silLen; omega), sortU_id h.sort, List.map_map]
    rfl
  have hc : compL (gN 5) (tNot' (toB (eChain fLe fLt (eK (.int 1)) (eV 5) (eV 1)))) (eV 5) (wipeD [.val (dWeb W), .val (.int (W.many : Int)), .val (.tup (dNs W.silent)), .val (.tup (W.ways.map dWay)), .no, .no] [5]) (dNs W.silent) rw = .ok ([], rw) := by
    rw [compL_pure (fun _ => false) id (dNs W.silent) fun d hd => ?_]
    · simp
    · unfold dNs at hd
      obtain ⟨p, hp, rfl⟩ := List.mem_map.mp hd
      obtain ⟨h1, h2⟩ := h.sil p hp
      have h3 : (1 : Int) ≤ (p : Int) := by omega
      refine ⟨_, rfl, ?_, fun z => by cases z⟩
      simp [wipeD, h3, h2]
  have hlen : (dNs W.silent).length ≤ sizeLine := sl_big (by rw [dNs, List.length_map]; have := h.silLen; omega)
  have hne : fNe (.lst (dNs W.silent)) (.lst (dNs W.silent)) = some (.bl false) := fNe_self (n := 1) (by decide) (by simp [fit_dNs])
  have hw : ((W.ways.length : Nat) : Int) = (W.many : Int) - 1 := by have := h.len; have := h.lo; omega
  rw [show dWeb W = .tup [.int (W.many : Int), .tup (dNs W.silent), .tup (W.ways.map dWay)] from rfl] at hsil hc ⊢
  simp only [List.replicate, sSeq_ap, sAsg_ap, eV_ap, List.getElem?_cons_succ, List.getElem?_cons_zero, getV_val, bind_ok, gT_ap, List.length_cons, List.length_nil, if_true, gsCons_ap, gN_ap, Option.bind_some, gsNil_ap, List.set_cons_succ, List.set_cons_zero, seqK_next, sIf_ap, tNot_ap, toB_ap, eCall_ap, aCons_ap, aNil_ap, hmany, toBK_bl, Bool.not_true, Bool.false_eq_true, if_false, sNext_ap, tOr_ap]
  rw [eBin_ap, eArgs_ap]
  simp only [aCons_ap, aNil_ap, eV_ap, List.getElem?_cons_succ, List.getElem?_cons_zero, getV_val, bind_ok, fList_tup, ofO_some]
  rw [hsil]
  simp only [bind_ok, hne, ofO_some, toBK_bl, Bool.false_eq_true, if_false]
  rw [eBin_ap, eComp_ap]
  simp only [aItems_ap, eV_ap, List.getElem?_cons_succ, List.getElem?_cons_zero, getV_val, bind_ok, itemsOf_tup, ofO_some]
  rw [if_pos hlen, hc]
  simp only [bind_ok, eLst_ap, aNil_ap, List.length_nil, Nat.zero_le, if_true, ofO_some, fNe_nil, toBK_bl, Bool.false_eq_true, if_false, sNext_ap, seqK_next, sSeq_ap, sIf_ap, toB_ap, eBin_ap, eArgs_ap, aCons_ap, eV_ap, eK_ap, List.getElem?_cons_succ, List.getElem?_cons_zero, getV_val, fLen_tup, List.length_map, fSub_int, fNe_int, hw, decide_true, Bool.not_true, sFor_ap, aRng_ap, rng2_ap]
  have hlo := h.lo
  have hhi := h.hi
  rw [if_pos ⟨⟨by omega, by omega⟩, by omega, by omega⟩]
  have hn : ((W.many : Int) - 1).toNat = W.many - 1 := by omega
  simp only [ofO_some, bind_ok, hn]
  generalize hb : sIf (tNot' (toB (eCall d_is_way _))) _ _ = body
  obtain ⟨l', rw', e, r, x4, e2⟩ := loop_all (tg := gN 4) (body := body) (fun _ l rw' => rw' = rw ∧ ∃ x4, l = [.val (.tup [.int (W.many : Int), .tup (dNs W.silent), .tup (W.ways.map dWay)]), .val (.int (W.many : Int)), .val (.tup (dNs W.silent)), .val (.tup (W.ways.map dWay)), x4, .no]) (rangeD 1 (W.many - 1)) 0
    _ rw ⟨rfl, .no, rfl⟩ (by
      rintro i d l rw2 hd ⟨rfl, x4, rfl⟩
      have hi : i < W.many - 1 := by have := (List.getElem?_eq_some_iff.mp hd).1; simpa using this
      rw [rangeD_get hi] at hd
      cases hd
      obtain ⟨w, hw1, hw2⟩ := h.way (i + 1) (by omega) (by omega)
      have ei : (1 : Int) + (i : Int) = ((i + 1 : Nat) : Int) := by omega
      have hx : L2.atI (W.ways.map dWay) (((i + 1 : Nat) : Int) - 1) = some (dWay w) := by
        rw [show ((i + 1 : Nat) : Int) - 1 = ((i : Nat) : Int) by omega, atI_nat_eq, List.getElem?_map]
        rw [show i + 1 - 1 = i by omega] at hw1
        rw [hw1]; rfl
      have hiw := is_way_ok (rw := rw2) hhi hw2
      subst hb
      refine ⟨_, rfl, _, rw2, .inl ?_, rfl, .val (.int ((i + 1 : Nat) : Int)), rfl⟩
      rw [ei]
      simp only [List.set_cons_succ, List.set_cons_zero, sIf_ap, tNot_ap, toB_ap, eCall_ap, aCons_ap, aNil_ap, eV_ap, eBin_ap, eK_ap, List.getElem?_cons_succ, List.getElem?_cons_zero, getV_val, bind_ok, fSub_int, ofO_some, fIx_tup, hx, hiw, toBK_bl, Bool.not_true, Bool.false_eq_true, if_false, sNext_ap])
  subst r e2
  rw [e]
  simp
end HC
end
section
/-! Plain lemmas: walks. -/
namespace HC
open PySem PySem.Spec L2 HD

theorem dNs_append (P Q : List Nat) : dNs (P ++ Q) = dNs P ++ dNs Q := by simp [dNs]
theorem dNs_len (P : List Nat) : (dNs P).length = P.length := by simp [dNs]
theorem dNs_get (P : List Nat) (i : Nat) : (dNs P)[i]? = (P[i]?).map fun (n : Nat) => D.int (n : Int) := by simp [dNs]
theorem flat_dNs (P : List Nat) : (dNs P).all flatD = true := by simp [dNs, flatD]
theorem anyF_dNs (v : Nat) : ∀ P : List Nat, ((dNs P).any fun y => eqF y (.int (v : Int))) = decide (v ∈ P)
  | [] => by simp [dNs]
  | x :: P => by
    show (eqF (.int (x : Int)) (.int (v : Int)) || (dNs P).any fun y => eqF y (.int (v : Int))) = _
    rw [anyF_dNs v P]
    simp only [eqF, List.mem_cons]
    by_cases h : v = x
    · subst h; simp
    · have h2 : ¬ ((x : Int) = (v : Int)) := by omega
      simp [h, h2]
theorem fIn_dNs (neg : Bool) (v : Nat) (P : List Nat) : fIn neg (.int (v : Int)) (.lst (dNs P)) = some (.bl (if neg = true then !decide (v ∈ P) else decide (v ∈ P))) := by
  unfold fIn fInF seqOf
  simp only [flatD, flat_dNs, and_self, if_true, anyF_dNs]
theorem fIn_dNsT (neg : Bool) (v : Nat) (P : List Nat) : fIn neg (.int (v : Int)) (.tup (dNs P)) = some (.bl (if neg = true then !decide (v ∈ P) else decide (v ∈ P))) := by
  unfold fIn fInF seqOf
  simp only [flatD, flat_dNs, and_self, if_true, anyF_dNs]
/-- the first place of v -/
def fst_ (v : Nat) : List Nat → Nat
  | [] => 0
  | x :: P => if x = v then 0 else fst_ v P + 1
theorem firstAt_dNs {v : Nat} : ∀ {P : List Nat}, v ∈ P → firstAt (.int (v : Int)) (dNs P) = some (fst_ v P)
  | [], h => by simp at h
  | x :: P, h => by
    show (if eqD (.int (x : Int)) (.int (v : Int)) = true then some 0 else (firstAt (.int (v : Int)) (dNs P)).map (· + 1)) = _
    unfold fst_
    by_cases e : x = v
    · subst e; simp
    · have e2 : ¬ ((x : Int) = (v : Int)) := by omega
      have hm : v ∈ P := (List.mem_cons.mp h).resolve_left (Ne.symm e)
      simp [e, e2, firstAt_dNs hm]
theorem fst_lt {v : Nat} : ∀ {P : List Nat}, v ∈ P → fst_ v P < P.length ∧ P[fst_ v P]? = some v ∧ ∀ m, m < fst_ v P → P[m]? ≠ some v
  | [], h => by simp at h
  | x :: P, h => by
    unfold fst_
    by_cases e : x = v
    · subst e; simp
    · have hm : v ∈ P := (List.mem_cons.mp h).resolve_left (Ne.symm e)
      obtain ⟨h1, h2, h3⟩ := fst_lt hm
      rw [if_neg e]
      refine ⟨by simp; omega, by simpa using h2, fun m hm => ?_⟩
      cases m with
      | zero => simpa using e
      | succ m => simpa using h3 m (by omega)
theorem fIndex_dNs {v : Nat} {P : List Nat} (h : v ∈ P) : fIndex (.lst (dNs P)) [.int (v : Int)] = some (.int (fst_ v P : Nat)) := by
  show (if fit 8 (.lst (dNs P)) = true ∧ fit 8 (.int (v : Int)) = true then (firstAt (.int (v : Int)) (dNs P)).map fun j => D.int (j : Nat) else none) = _
  rw [if_pos ⟨by simp [fit_dNs], by simp⟩, firstAt_dNs h]; rfl
/-- the places of v, in a comprehension -/
theorem filter_fst {v : Nat} (b : Nat → Bool) : ∀ {P : List Nat} (lo : Nat), v ∈ P → (∀ i, i < P.length → b (lo + i) = decide (P[i]? = some v)) → ∃ r, (List.range' lo P.length).filter b = (lo + fst_ v P) :: r
  | [], lo, h, _ => by simp at h
  | x :: P, lo, h, hb => by
    unfold fst_
    rw [List.length_cons, List.range'_succ]
    by_cases e : x = v
    · subst e
      have h0 := hb 0 (by simp)
      simp at h0
      rw [List.filter_cons, if_pos (by simpa using h0)]
      exact ⟨(List.range' (lo + 1) P.length).filter b, by simp⟩
    · have hm : v ∈ P := (List.mem_cons.mp h).resolve_left (Ne.symm e)
      have h0 := hb 0 (by simp)
      simp [e] at h0
      rw [List.filter_cons, if_neg (by simp [h0])]
      obtain ⟨r, hr⟩ := filter_fst b (lo + 1) hm fun i hi => by
        have := hb (i + 1) (by simp; omega)
        rw [show lo + (i + 1) = lo + 1 + i by omega] at this
        simpa using this
      refine ⟨r, ?_⟩
      rw [hr, if_neg e]
      congr 1
      omega
/-- how a walk ends -/
def walkM (w : List (Option Nat)) (goal : Nat) : Nat → List Nat → Nat → Option D
  | 0, _, _ => none
  | n + 1, Q, v => match w[v]? with
    | some none => some (.tup [.tup (dNs (Q ++ [v])), .str "lost"])
    | some (some u) => if u = goal then some (.tup [.tup (dNs (Q ++ [v] ++ [goal])), .str "there"]) else if u ∈ Q ++ [v] then some (.tup [.tup (dNs (Q ++ [v])), .int (fst_ u (Q ++ [v]) : Nat)]) else walkM w goal n (Q ++ [v]) u
    | none => none
structure WkInv (many goal : Nat) (Q : List Nat) (v : Nat) : Prop where
  lt : ∀ p ∈ Q ++ [v], p < many ∧ p ≠ goal
  nd : (Q ++ [v]).Nodup
theorem WkInv.next {many goal : Nat} {Q : List Nat} {v u : Nat} (h : WkInv many goal Q v) (h1 : u < many) (h2 : u ≠ goal) (h3 : u ∉ Q ++ [v]) : WkInv many goal (Q ++ [v]) u := by
  refine ⟨fun p hp => ?_, ?_⟩
  · rcases List.mem_append.mp hp with hp | hp
    · exact h.lt p hp
    · simp at hp; subst hp; exact ⟨h1, h2⟩
  · rw [List.nodup_append]
    refine ⟨h.nd, by simp, fun a ha b hb => ?_⟩
    simp at hb
    subst hb
    exact fun e => h3 (e ▸ ha)
theorem nodup_lt_len {n : Nat} {l : List Nat} (h : l.Nodup) (b : ∀ p ∈ l, p < n) : l.length ≤ n := by
  have := List.Nodup.length_le_of_subset h (l₂ := List.range n) fun p hp => List.mem_range.mpr (b p hp)
  simpa using this
theorem WkInv.len {many goal : Nat} {Q : List Nat} {v : Nat} (h : WkInv many goal Q v) : Q.length + 1 ≤ many := by
  have := nodup_lt_len h.nd fun p hp => (h.lt p hp).1
  simpa using this
theorem walkM_some {many goal : Nat} {w : List (Option Nat)} (hw : WayOk many goal w) : ∀ (n : Nat) (Q : List Nat) (v : Nat), WkInv many goal Q v → many + 1 ≤ Q.length + 1 + n → ∃ d, walkM w goal n Q v = some d
  | 0, Q, v, h, hn => by have := h.len; omega
  | n + 1, Q, v, h, hn => by
    have hv := (h.lt v (by simp)).1
    have hvl : v < w.length := by rw [hw.len]; exact hv
    have e : w[v]? = some w[v] := List.getElem?_eq_getElem hvl
    unfold walkM
    rw [e]
    cases q : w[v] with
    | none => exact ⟨_, rfl⟩
    | some u =>
      dsimp only
      split
      · exact ⟨_, rfl⟩
      · split
        · exact ⟨_, rfl⟩
        · rename_i h1 h2
          obtain ⟨h3, h4⟩ := hw.go v u (by rw [e, q])
          exact walkM_some hw n (Q ++ [v]) u (h.next h3 h1 h2) (by simp; omega)
theorem atI_last' (Q : List Nat) (v : Nat) : L2.atI (dNs (Q ++ [v])) (-1) = some (.int (v : Int)) := by
  rw [dNs_append]; exact atI_last _ _
/-! ### the program's walk -/
end HC
end
section
/-! What comes back, plainly. -/
namespace HC
open PySem PySem.Spec L2 HD
theorem rng1_of' {j : Int} {n : Nat} (h : j = (n : Int)) (hn : n ≤ 100) : rng1 [.int j] = some (rangeD 0 n) := by
  rw [rng1_ap, if_pos ⟨by omega, by omega⟩]; subst h; rfl
theorem rng2_of' {i j : Int} {a b : Nat} (h : i = (a : Int)) (h' : j = (b : Int)) (ha : a ≤ 100) (hb : b ≤ 100) : rng2 [.int i, .int j] = some (rangeD (a : Int) (b - a)) := by
  subst h; subst h'
  rw [rng2_ap, if_pos ⟨⟨by omega, by omega⟩, ⟨by omega, by omega⟩⟩, show ((b : Int) - (a : Int)).toNat = b - a by omega]
theorem compL_map {α : Type} {tg : D → Dl → Option Dl} {c : EM Bool} {e : EM D} {lw : Dl} {rw : Rw} (f : α → D) (h : α → D) : ∀ xs : List α, (∀ x : α, ∃ l1, tg (f x) lw = some l1 ∧ c l1 rw = .ok (true, rw) ∧ e l1 rw = .ok (h x, rw)) → compL tg c e lw (xs.map f) rw = .ok (xs.map h, rw)
  | [], _ => rfl
  | x :: xs, hh => by
    obtain ⟨l1, h1, h2, h3⟩ := hh x
    have ih := compL_map f h xs hh
    rw [List.map_cons, List.map_cons]
    unfold compL
    rw [h1]
    simp only [h2, h3, noX_ok, bind_ok, if_true, ih]
/-- one hop -/
def hopM (w : List (Option Nat)) (goal : Nat) : Option Nat → Option Nat
  | none => none
  | some p => if p = goal then some p else (w[p]?).getD none
def posM (w : List (Option Nat)) (goal : Nat) : Nat → Option Nat
  | 0 => some 0
  | n + 1 => hopM w goal (posM w goal n)
theorem posM_lt {many goal : Nat} {w : List (Option Nat)} (hm : 0 < many) (hw : WayOk many goal w) : ∀ (n p : Nat), posM w goal n = some p → p < many
  | 0, p, h => by cases h; exact hm
  | n + 1, p, h => by
    unfold posM at h
    cases q : posM w goal n with
    | none => rw [q] at h; cases h
    | some r =>
      rw [q] at h
      have hr := posM_lt hm hw n r q
      unfold hopM at h
      simp only [] at h
      split at h
      · cases h; exact hr
      · cases e : w[r]? with
        | none => rw [e] at h; cases h
        | some o =>
          rw [e] at h
          simp at h
          subst h
          exact (hw.go r p e).1
theorem way_get {many goal : Nat} {w : List (Option Nat)} (hw : WayOk many goal w) {p : Nat} (hp : p < many) : w[p]? = some ((w[p]?).getD none) := by
  have h : p < w.length := by rw [hw.len]; exact hp
  rw [List.getElem?_eq_getElem h]
  rfl
/-- the answer -/
def nothingD : D := .tup [.str "nothing"]
def ansM (silent : List Nat) (goal : Nat) : Option Nat → D
  | none => nothingD
  | some p => if p ∈ silent then nothingD else .tup [.str (if p = goal then "there" else "gone"), .int (p : Int)]
theorem fIn_dO (o : Option Nat) (goal : Nat) : fNe (dO (some goal)) (.int (goal : Int)) = some (.bl false) := by simp
def postsBody : SM := (sSeq (sIf (tAnd' (toB (eUn notNonD (eV 3))) (toB (eBin fNe (eV 3) (eV 1)))) (sSet 3 (eBin fIxD (eV 0) (eV 3))) sNext) (sMut "list" 4 fAppend (aCons (eV 3) aNil)))
/-- what a way, told as a value, tells of the next post -/
def Tells (wD : D) (w : List (Option Nat)) (goal : Nat) : Prop := ∀ n p, posM w goal n = some p → p ≠ goal → fIxD wD (.int (p : Int)) = some (dO ((w[p]?).getD none))
theorem tells_way {many goal : Nat} {w : List (Option Nat)} (hm : 0 < many) (hw : WayOk many goal w) : Tells (dWay w) w goal := fun n p q _ => by
  have hp := posM_lt hm hw n p q
  show L2.atI (w.map dO) (p : Int) = _
  rw [atI_nat_eq, List.getElem?_map, way_get hw hp]; rfl
theorem postsBody_ok {wD : D} {goal : Nat} {w : List (Option Nat)} {rw : Rw} (ht : Tells wD w goal) (n : Nat) (hn : n ≤ 100) (x2 x5 : Sl) (ds : List D) (hd : ds.length = n) :
    postsBody [.val wD, .val (.int (goal : Int)), x2, .val (dO (posM w goal n)), .own (.lst ds), x5] rw = .ok (.next, [.val wD, .val (.int (goal : Int)), x2, .val (dO (posM w goal (n + 1))), .own (.lst (ds ++ [dO (posM w goal (n + 1))])), x5], rw) := by
  have hl : ds.length < sizeLine := sl_lt (by omega)
  cases q : posM w goal n with
  | none =>
    have e : posM w goal (n + 1) = none := by unfold posM; rw [q]; rfl
    rw [e]
    simp -implicitDefEqProofs only [postsBody, sSeq_ap, sIf_ap, tAnd_ap, toB_ap, eUn_ap, eV_ap, List.getElem?_cons_succ, List.getElem?_cons_zero, getV_val, bind_ok, dO_none, notNon_non, ofO_some, toBK_bl, Bool.false_eq_true, if_false, sNext_ap, seqK_next, sMut_ap, tyD_lst, if_true, aCons_ap, aNil_ap, fAppend_lst, hl, noX_ok, List.set_cons_succ, List.set_cons_zero]
  | some p =>
    by_cases hg : p = goal
    · have e : posM w goal (n + 1) = some p := by unfold posM; rw [q]; unfold hopM; simp [hg]
      rw [e]
      have hg' : (p : Int) = (goal : Int) := by omega
      simp -implicitDefEqProofs only [postsBody, sSeq_ap, sIf_ap, tAnd_ap, toB_ap, eUn_ap, eBin_ap, eV_ap, List.getElem?_cons_succ, List.getElem?_cons_zero, getV_val, bind_ok, dO_some, notNon_int, ofO_some, toBK_bl, if_true, fNe_int, hg', decide_true, Bool.not_true, Bool.false_eq_true, if_false, sNext_ap, seqK_next, sMut_ap, tyD_lst, aCons_ap, aNil_ap, fAppend_lst, hl, noX_ok, List.set_cons_succ, List.set_cons_zero]
    · have e : posM w goal (n + 1) = (w[p]?).getD none := by unfold posM; rw [q]; unfold hopM; simp [hg]
      rw [e]
      have hg' : ¬ (p : Int) = (goal : Int) := by omega
      have ex := ht n p q hg
      generalize (w[p]?).getD none = o at ex
      simp -implicitDefEqProofs only [postsBody, sSeq_ap, sIf_ap, tAnd_ap, toB_ap, eUn_ap, eBin_ap, eV_ap, List.getElem?_cons_succ, List.getElem?_cons_zero, getV_val, bind_ok, dO_some, notNon_int, ofO_some, toBK_bl, if_true, fNe_int, hg', decide_false, Bool.not_false, sSet_ap, ex, seqK_next, sMut_ap, tyD_lst, aCons_ap, aNil_ap, fAppend_lst, hl, noX_ok, List.set_cons_succ, List.set_cons_zero]
def posL (w : List (Option Nat)) (goal : Nat) (a n : Nat) : List D := (List.range' a n).map fun h => dO (posM w goal (h + 1))
theorem posts_loop {wD : D} {goal : Nat} {w : List (Option Nat)} {rw : Rw} (ht : Tells wD w goal) (x2 : Sl) : ∀ (ys : List D) (a : Nat) (x5 : Sl) (ds : List D), ds.length = a → a + ys.length ≤ 100 →
    ∃ x5' x3', sLoop (gN 5) postsBody ys [.val wD, .val (.int (goal : Int)), x2, .val (dO (posM w goal a)), .own (.lst ds), x5] rw = .ok (.next, [.val wD, .val (.int (goal : Int)), x2, x3', .own (.lst (ds ++ posL w goal a ys.length)), x5'], rw)
  | [], a, x5, ds, hd, _ => ⟨x5, .val (dO (posM w goal a)), by simp [sLoop, posL]⟩
  | y :: ys, a, x5, ds, hd, hn => by
    simp at hn
    obtain ⟨x5', x3', e⟩ := posts_loop ht x2 ys (a + 1) (.val y) (ds ++ [dO (posM w goal (a + 1))]) (by simp [hd]) (by omega)
    refine ⟨x5', x3', ?_⟩
    unfold sLoop
    simp only [gN_ap, List.set_cons_succ, List.set_cons_zero]
    rw [postsBody_ok ht a (by omega) x2 (.val y) ds hd]
    simp only [bind_ok]
    rw [e]
    have : ds ++ [dO (posM w goal (a + 1))] ++ posL w goal (a + 1) ys.length = ds ++ posL w goal a (y :: ys).length := by
      rw [List.append_assoc]
      congr 1
    rw [this]
theorem posts_gen {wD : D} {goal : Nat} {w : List (Option Nat)} {rw : Rw} (ht : Tells wD w goal) (n : Nat) (hn : n ≤ 60) : d_posts_on [wD, .int (goal : Int), .int (n : Int)] rw = .ok (.lst (posL w goal 0 n), rw) := by
  unfold d_posts_on
  rw [dDef3]
  obtain ⟨x5, x3, e⟩ := posts_loop (rw := rw) ht (.val (.int (n : Int))) (rangeD 0 n) 0 .no [] rfl (by simp; omega)
  rw [rangeD_len] at e
  have e0 : dO (posM w goal 0) = .int 0 := rfl
  rw [e0] at e
  have eb : b_posts_on = sSeq (sSet 3 (eK (.int 0))) (sSeq (sSetO 4 (eLst aNil)) (sSeq (sFor (aRng rng1 (aCons (eV 2) aNil)) (gN 5) postsBody) (sRetV 4))) := rfl
  have hr : rng1 [.int (n : Int)] = some (rangeD 0 n) := rng1_of' rfl (by omega)
  have hz : (0 : Nat) ≤ sizeLine := Nat.zero_le _
  rw [eb]
  simp -implicitDefEqProofs only [List.replicate, sSeq_ap, sSet_ap, eK_ap, bind_ok, List.set_cons_succ, List.set_cons_zero, seqK_next, sSetO_ap, eLst_ap, aNil_ap, List.length_nil, hz, if_true, ofO_some, sFor_ap, aRng_ap, aCons_ap, eV_ap, List.getElem?_cons_succ, List.getElem?_cons_zero, getV_val, hr, e, sRetV_ap, List.nil_append, dFin_ret]
theorem answer_ok {silent : List Nat} {goal : Nat} {o : Option Nat} {rw : Rw} (l0 : silent.length ≤ 6) : d_answer_of [.tup (dNs silent), .int (goal : Int), dO o] rw = .ok (ansM silent goal o, rw) := by
  unfold d_answer_of
  rw [dDef3]
  cases o with
  | none =>
    simp -implicitDefEqProofs only [b_answer_of, List.replicate, sSeq_ap, sIf_ap, tOr_ap, toB_ap, eUn_ap, eV_ap, List.getElem?_cons_succ, List.getElem?_cons_zero, getV_val, bind_ok, dO_none, isNon_non, ofO_some, toBK_bl, if_true, sRet_ap, eK_ap, seqK_ret, dFin_ret, ansM, nothingD]
  | some p =>
    by_cases hs : p ∈ silent
    · simp -implicitDefEqProofs only [b_answer_of, List.replicate, sSeq_ap, sIf_ap, tOr_ap, toB_ap, eUn_ap, eBin_ap, eV_ap, List.getElem?_cons_succ, List.getElem?_cons_zero, getV_val, bind_ok, dO_some, isNon_int, ofO_some, toBK_bl, Bool.false_eq_true, if_false, fIn_dNsT, hs, decide_true, if_true, sRet_ap, eK_ap, seqK_ret, dFin_ret, ansM, nothingD]
    · have h2 : 2 ≤ sizeLine := sl_big (by decide)
      by_cases hg : p = goal
      · subst hg
        simp -implicitDefEqProofs only [b_answer_of, List.replicate, sSeq_ap, sIf_ap, tOr_ap, toB_ap, eUn_ap, eBin_ap, eV_ap, List.getElem?_cons_succ, List.getElem?_cons_zero, getV_val, bind_ok, dO_some, isNon_int, ofO_some, toBK_bl, Bool.false_eq_true, if_false, fIn_dNsT, hs, decide_false, sNext_ap, seqK_next, sRet_ap, eTup_ap, aCons_ap, aNil_ap, eIf_ap, fEq_int, decide_true, if_true, eK_ap, List.length_cons, List.length_nil, Nat.zero_add, Nat.reduceAdd, h2, dFin_ret, ansM]
      · have hg' : ¬ (p : Int) = (goal : Int) := by omega
        simp -implicitDefEqProofs only [b_answer_of, List.replicate, sSeq_ap, sIf_ap, tOr_ap, toB_ap, eUn_ap, eBin_ap, eV_ap, List.getElem?_cons_succ, List.getElem?_cons_zero, getV_val, bind_ok, dO_some, isNon_int, ofO_some, toBK_bl, Bool.false_eq_true, if_false, fIn_dNsT, hs, hg, hg', decide_false, sNext_ap, seqK_next, sRet_ap, eTup_ap, aCons_ap, aNil_ap, eIf_ap, fEq_int, decide_true, if_true, eK_ap, List.length_cons, List.length_nil, Nat.zero_add, Nat.reduceAdd, h2, dFin_ret, ansM]
def ansL (silent : List Nat) (w : List (Option Nat)) (goal n : Nat) : List D := (List.range' 0 n).map fun h => ansM silent goal (posM w goal (h + 1))
theorem answers_gen {wD : D} {silent : List Nat} {goal : Nat} {w : List (Option Nat)} {rw : Rw} (ht : Tells wD w goal) (l0 : silent.length ≤ 6) (n : Nat) (hn : n ≤ 60) :
    d_answers_of [.tup (dNs silent), wD, .int (goal : Int), .int (n : Int)] rw = .ok (.lst (ansL silent w goal n), rw) := by
  unfold d_answers_of
  rw [dDef4]
  have e1 := posts_gen (rw := rw) ht n hn
  have e2 : ∀ xs : List (Option Nat), compL (gN 4) cYes (eCall d_answer_of (aCons (eV 0) (aCons (eV 2) (aCons (eV 4) aNil)))) [.val (.tup (dNs silent)), .val wD, .val (.int (goal : Int)), .val (.int (n : Int)), .no] (xs.map dO) rw = .ok (xs.map (ansM silent goal), rw) := fun xs => compL_map dO (ansM silent goal) xs fun x => ⟨[.val (.tup (dNs silent)), .val wD, .val (.int (goal : Int)), .val (.int (n : Int)), .val (dO x)], rfl, rfl, by
      have ea := answer_ok (goal := goal) (o := x) (rw := rw) l0
      simp -implicitDefEqProofs only [eCall_ap, aCons_ap, aNil_ap, eV_ap, List.getElem?_cons_succ, List.getElem?_cons_zero, getV_val, bind_ok, ea]⟩
  have e3 := e2 ((List.range' 0 n).map fun h => posM w goal (h + 1))
  have e4 : posL w goal 0 n = ((List.range' 0 n).map fun h => posM w goal (h + 1)).map dO := by rw [List.map_map]; rfl
  have e5 : ansL silent w goal n = ((List.range' 0 n).map fun h => posM w goal (h + 1)).map (ansM silent goal) := by rw [List.map_map]; rfl
  have hl : (ansL silent w goal n).length ≤ sizeLine := sl_big (by simp [ansL]; omega)
  rw [e4] at e1
  rw [← e5] at e3
  unfold b_answers_of
  simp -implicitDefEqProofs only [List.replicate, sRet_ap, eComp_ap, aItems_ap, eCall_ap, aCons_ap, aNil_ap, eV_ap, List.getElem?_cons_succ, List.getElem?_cons_zero, getV_val, bind_ok, e1, itemsOf_lst, ofO_some]
  have hl2 : (((List.range' 0 n).map fun h => posM w goal (h + 1)).map dO).length ≤ sizeLine := sl_big (by simp; omega)
  have hw2 : wipeD [.val (.tup (dNs silent)), .val wD, .val (.int (goal : Int)), .val (.int (n : Int)), .no] [4] = [.val (.tup (dNs silent)), .val wD, .val (.int (goal : Int)), .val (.int (n : Int)), .no] := rfl
  simp -implicitDefEqProofs only [hw2, e3, bind_ok, hl2, if_true, dFin_ret]
theorem answers_of_ok {silent : List Nat} {many goal : Nat} {w : List (Option Nat)} {rw : Rw} (hm : 0 < many) (hw : WayOk many goal w) (l0 : silent.length ≤ 6) (n : Nat) (hn : n ≤ 60) :
    d_answers_of [.tup (dNs silent), dWay w, .int (goal : Int), .int (n : Int)] rw = .ok (.lst (ansL silent w goal n), rw) := answers_gen (tells_way hm hw) l0 n hn
theorem posts_ok {many goal : Nat} {w : List (Option Nat)} {rw : Rw} (hm : 0 < many) (hw : WayOk many goal w) (n : Nat) (hn : n ≤ 60) : d_posts_on [dWay w, .int (goal : Int), .int (n : Int)] rw = .ok (.lst (posL w goal 0 n), rw) := posts_gen (tells_way hm hw) n hn
end HC
end
section
namespace HC
open PySem PySem.Spec L2 HD
/-- what the web answers -/
structure WayAt (W : Web) (goal : Nat) (w : List (Option Nat)) : Prop where
  lo : 1 ≤ goal
  hi : goal < W.many
  at_ : W.ways[goal - 1]? = some w
  ok : WayOk W.many goal w
theorem WebOk.wayAt {W : Web} (h : WebOk W) {goal : Nat} (h1 : 1 ≤ goal) (h2 : goal < W.many) : ∃ w, WayAt W goal w := by
  obtain ⟨w, a, b⟩ := h.way goal h1 h2
  exact ⟨w, h1, h2, a, b⟩
theorem WayAt.ix {W : Web} {goal : Nat} {w : List (Option Nat)} (h : WayAt W goal w) : L2.atI (W.ways.map dWay) ((goal : Int) - 1) = some (dWay w) := by
  rw [show (goal : Int) - 1 = ((goal - 1 : Nat) : Int) by have := h.lo; omega, atI_nat_eq, List.getElem?_map, h.at_]; rfl
theorem ix0 (W : Web) : fIx (dWeb W) (.int 0) = some (.int (W.many : Int)) := by simp [dWeb]
theorem ix1 (W : Web) : fIx (dWeb W) (.int 1) = some (.tup (dNs W.silent)) := by simp [dWeb]
theorem ix2 (W : Web) : fIx (dWeb W) (.int 2) = some (.tup (W.ways.map dWay)) := by simp [dWeb]
theorem ansL_len {silent : List Nat} {w : List (Option Nat)} {goal n : Nat} : (ansL silent w goal n).length = n := by simp [ansL]
theorem ansL_get {silent : List Nat} {w : List (Option Nat)} {goal n i : Nat} (h : i < n) : (ansL silent w goal n)[i]? = some (ansM silent goal (posM w goal (i + 1))) := by
  unfold ansL
  rw [List.getElem?_map, List.getElem?_range' h]
  simp
theorem ansL_last {silent : List Nat} {w : List (Option Nat)} {goal n : Nat} : L2.atI (ansL silent w goal (n + 1)) (-1) = some (ansM silent goal (posM w goal (n + 1))) := by
  have e : ansL silent w goal (n + 1) = ansL silent w goal n ++ [ansM silent goal (posM w goal (n + 1))] := by
    unfold ansL
    rw [List.range'_concat, List.map_append]
    simp
  rw [e]
  exact atI_last _ _
theorem steps_to_ok {m : Nat} {rw : Rw} (h : m ≤ 6) : d_steps_to [.int (m : Int)] rw = .ok (.int ((2 * m : Nat) : Int), rw) := by
  unfold d_steps_to
  rw [dDef1]
  have e : fMul (.int 2) (.int (m : Int)) = some (.int ((2 * m : Nat) : Int)) := by
    rw [fMul_int, if_pos ⟨by omega, by omega⟩]
    congr 2
  simp -implicitDefEqProofs only [b_steps_to, List.replicate, sRet_ap, eBin_ap, eK_ap, eV_ap, List.getElem?_cons_zero, getV_val, bind_ok, e, ofO_some, dFin_ret]
theorem posM_stop {w : List (Option Nat)} {goal n : Nat} (h : posM w goal n = none ∨ posM w goal n = some goal) : ∀ k, posM w goal (n + k) = posM w goal n
  | 0 => rfl
  | k + 1 => by
    have ih := posM_stop h k
    show hopM w goal (posM w goal (n + k)) = _
    rw [ih]
    rcases h with h | h
    · rw [h]; rfl
    · rw [h]; unfold hopM; simp
def lawAskC : EM Bool := (tAnd' (toB (eBin fGt (eV 2) (eK (.int 0)))) (tAnd' (toB (eUn notNonD (eV 6))) (toB (eBin fNe (eV 6) (eV 1)))))
def lawAskB : SM := (sSeq (sSet 6 (eBin fIx (eBin fIx (eV 5) (eBin fSub (eV 1) (eK (.int 1)))) (eV 6))) (sSet 2 (eBin fSub (eV 2) (eK (.int 1)))))
/-- what a way, told as a tuple, tells of the next post -/
def TellsU (us : List D) (w : List (Option Nat)) (goal : Nat) : Prop := ∀ n p, posM w goal n = some p → p ≠ goal → L2.atI us (p : Int) = some (dO ((w[p]?).getD none))
theorem la_while {us ways : List D} {goal : Nat} {w : List (Option Nat)} {rw : Rw} (ig : L2.atI ways ((goal : Int) - 1) = some (.tup us)) (ht : TellsU us w goal) (x0 x3 x4 : Sl) (n : Nat) : ∀ (k m fuel : Nat), m + k = n → k < fuel →
    ∃ x2', sWhile lawAskC lawAskB fuel [x0, .val (.int (goal : Int)), .val (.int (k : Int)), x3, x4, .val (.tup ways), .val (dO (posM w goal m))] rw = .ok (.next, [x0, .val (.int (goal : Int)), x2', x3, x4, .val (.tup ways), .val (dO (posM w goal n))], rw)
  | 0, m, fuel, hn, hf => by
    obtain ⟨f, rfl⟩ : ∃ f, fuel = f + 1 := ⟨fuel - 1, by omega⟩
    have : m = n := by omega
    subst this
    refine ⟨.val (.int ((0 : Nat) : Int)), ?_⟩
    unfold sWhile
    have hgt : fGt (.int ((0 : Nat) : Int)) (.int 0) = some (.bl false) := rfl
    simp -implicitDefEqProofs only [lawAskC, tAnd_ap, toB_ap, eBin_ap, eV_ap, eK_ap, List.getElem?_cons_succ, List.getElem?_cons_zero, getV_val, bind_ok, hgt, ofO_some, toBK_bl, Bool.false_eq_true, if_false]
  | k + 1, m, fuel, hn, hf => by
    obtain ⟨f, rfl⟩ : ∃ f, fuel = f + 1 := ⟨fuel - 1, by omega⟩
    unfold sWhile
    have hgt : fGt (.int ((k + 1 : Nat) : Int)) (.int 0) = some (.bl true) := by
      unfold fGt
      rw [fCmp_int]
      simp
    cases q : posM w goal m with
    | none =>
      have := posM_stop (.inl q) (k + 1)
      rw [hn] at this
      rw [this, q]
      refine ⟨.val (.int ((k + 1 : Nat) : Int)), ?_⟩
      simp -implicitDefEqProofs only [lawAskC, tAnd_ap, toB_ap, eBin_ap, eUn_ap, eV_ap, eK_ap, List.getElem?_cons_succ, List.getElem?_cons_zero, getV_val, bind_ok, hgt, ofO_some, toBK_bl, Bool.false_eq_true, if_false, if_true, dO_none, notNon_non]
    | some p =>
      by_cases hg : p = goal
      · have := posM_stop (.inr (by rw [q, hg])) (k + 1)
        rw [hn] at this
        rw [this, q]
        refine ⟨.val (.int ((k + 1 : Nat) : Int)), ?_⟩
        have hg' : (p : Int) = (goal : Int) := by omega
        simp -implicitDefEqProofs only [lawAskC, tAnd_ap, toB_ap, eBin_ap, eUn_ap, eV_ap, eK_ap, List.getElem?_cons_succ, List.getElem?_cons_zero, getV_val, bind_ok, hgt, ofO_some, toBK_bl, Bool.false_eq_true, if_false, if_true, dO_some, notNon_int, fNe_int, hg', decide_true, Bool.not_true]
      · have e : posM w goal (m + 1) = (w[p]?).getD none := by show hopM w goal (posM w goal m) = _; rw [q]; unfold hopM; simp [hg]
        obtain ⟨x2', ih⟩ := la_while ig ht x0 x3 x4 n k (m + 1) f (by omega) (by omega)
        rw [e] at ih
        refine ⟨x2', ?_⟩
        have ex := ht m p q hg
        have hg' : ¬ (p : Int) = (goal : Int) := by omega
        have es : fSub (.int ((k + 1 : Nat) : Int)) (.int 1) = some (.int (k : Int)) := by
          rw [fSub_int]
          congr 2
          omega
        have hc : lawAskC [x0, .val (.int (goal : Int)), .val (.int ((k + 1 : Nat) : Int)), x3, x4, .val (.tup ways), .val (dO (some p))] rw = .ok (true, rw) := by
          simp -implicitDefEqProofs only [lawAskC, tAnd_ap, toB_ap, eBin_ap, eUn_ap, eV_ap, eK_ap, List.getElem?_cons_succ, List.getElem?_cons_zero, getV_val, bind_ok, hgt, ofO_some, toBK_bl, if_true, dO_some, notNon_int, fNe_int, hg', decide_false, Bool.not_false]
        have hb : lawAskB [x0, .val (.int (goal : Int)), .val (.int ((k + 1 : Nat) : Int)), x3, x4, .val (.tup ways), .val (dO (some p))] rw = .ok (.next, [x0, .val (.int (goal : Int)), .val (.int (k : Int)), x3, x4, .val (.tup ways), .val (dO ((w[p]?).getD none))], rw) := by
          generalize (w[p]?).getD none = o at ex
          simp -implicitDefEqProofs only [lawAskB, sSeq_ap, sSet_ap, eBin_ap, eV_ap, eK_ap, List.getElem?_cons_succ, List.getElem?_cons_zero, getV_val, bind_ok, fSub_int, ofO_some, fIx_tup, ig, dO_some, ex, List.set_cons_succ, List.set_cons_zero, seqK_next]
          rw [fSub_int] at es
          rw [Option.some.inj es]
        rw [hc]
        simp only [bind_ok, if_true]
        rw [hb]
        exact ih
theorem nothing_eq : nothingD = .tup [.str "nothing"] := rfl
theorem law_asked_gen {mD : D} {S : List Nat} {us ways : List D} {goal n : Nat} {w : List (Option Nat)} {rw : Rw} (ig : L2.atI ways ((goal : Int) - 1) = some (.tup us)) (ht : TellsU us w goal) (h2 : n ≤ 60) :
    d__law_asked [.tup [mD, .tup (dNs S), .tup ways], .int (goal : Int), .int (n : Int)] rw = .ok (ansM S goal (posM w goal n), rw) := by
  unfold d__law_asked
  rw [dDef3]
  obtain ⟨x2', e⟩ := la_while (rw := rw) ig ht (.val (.tup [mD, .tup (dNs S), .tup ways])) (.val mD) (.val (.tup (dNs S))) n n 0 1000 (by omega) (by omega)
  have e0 : dO (posM w goal 0) = .int 0 := rfl
  rw [e0] at e
  have eb : b__law_asked = sSeq (sAsg (eV 0) (gT 3 (gsCons (gN 3) (gsCons (gN 4) (gsCons (gN 5) gsNil))))) (sSeq (sSet 6 (eK (.int 0))) (sSeq (sWhile lawAskC lawAskB 1000) (sSeq (sIf (tOr' (toB (eUn isNonD (eV 6))) (toB (eBin (fIn false) (eV 6) (eV 4)))) (sRet (eTup (aCons (eK (.str "nothing")) aNil))) sNext) (sRet (eIf (toB (eBin fEq (eV 6) (eV 1))) (eTup (aCons (eK (.str "there")) (aCons (eV 1) aNil))) (eTup (aCons (eK (.str "gone")) (aCons (eV 6) aNil)))))))) := rfl
  have h1l : 1 ≤ sizeLine := sl_big (by decide)
  have h2l : 2 ≤ sizeLine := sl_big (by decide)
  have ha : sAsg (eV 0) (gT 3 (gsCons (gN 3) (gsCons (gN 4) (gsCons (gN 5) gsNil)))) [.val (.tup [mD, .tup (dNs S), .tup ways]), .val (.int (goal : Int)), .val (.int (n : Int)), .no, .no, .no, .no] rw = .ok (.next, [.val (.tup [mD, .tup (dNs S), .tup ways]), .val (.int (goal : Int)), .val (.int (n : Int)), .val mD, .val (.tup (dNs S)), .val (.tup ways), .no], rw) := rfl
  rw [eb]
  simp -implicitDefEqProofs only [List.replicate]
  rw [sSeq_ap, ha]
  simp -implicitDefEqProofs only [bind_ok, seqK_next]
  rw [sSeq_ap, sSet_ap, eK_ap]
  simp -implicitDefEqProofs only [bind_ok, seqK_next, List.set_cons_succ, List.set_cons_zero]
  rw [sSeq_ap, e]
  simp -implicitDefEqProofs only [bind_ok, seqK_next]
  cases posM w goal n with
  | none =>
    simp -implicitDefEqProofs only [sSeq_ap, sIf_ap, tOr_ap, toB_ap, eUn_ap, eV_ap, List.getElem?_cons_succ, List.getElem?_cons_zero, getV_val, bind_ok, dO_none, isNon_non, ofO_some, toBK_bl, if_true, sRet_ap, eTup_ap, aCons_ap, aNil_ap, eK_ap, List.length_cons, List.length_nil, Nat.zero_add, h1l, seqK_ret, dFin_ret, ansM, nothing_eq]
  | some p =>
    by_cases hs : p ∈ S
    · simp -implicitDefEqProofs only [sSeq_ap, sIf_ap, tOr_ap, toB_ap, eUn_ap, eBin_ap, eV_ap, List.getElem?_cons_succ, List.getElem?_cons_zero, getV_val, bind_ok, dO_some, isNon_int, Bool.false_eq_true, if_false, fIn_dNsT, hs, decide_true, ofO_some, toBK_bl, if_true, sRet_ap, eTup_ap, aCons_ap, aNil_ap, eK_ap, List.length_cons, List.length_nil, Nat.zero_add, h1l, seqK_ret, dFin_ret, ansM, nothing_eq]
    · by_cases hg : p = goal
      · subst hg
        simp -implicitDefEqProofs only [sSeq_ap, sIf_ap, tOr_ap, toB_ap, eUn_ap, eBin_ap, eV_ap, List.getElem?_cons_succ, List.getElem?_cons_zero, getV_val, bind_ok, dO_some, isNon_int, Bool.false_eq_true, if_false, fIn_dNsT, hs, decide_false, ofO_some, toBK_bl, sNext_ap, seqK_next, sRet_ap, eIf_ap, fEq_int, decide_true, if_true, eTup_ap, aCons_ap, aNil_ap, eK_ap, List.length_cons, List.length_nil, Nat.zero_add, Nat.reduceAdd, h2l, dFin_ret, ansM]
      · have hg' : ¬ (p : Int) = (goal : Int) := by omega
        simp -implicitDefEqProofs only [sSeq_ap, sIf_ap, tOr_ap, toB_ap, eUn_ap, eBin_ap, eV_ap, List.getElem?_cons_succ, List.getElem?_cons_zero, getV_val, bind_ok, dO_some, isNon_int, Bool.false_eq_true, if_false, fIn_dNsT, hs, hg, hg', decide_false, ofO_some, toBK_bl, sNext_ap, seqK_next, sRet_ap, eIf_ap, fEq_int, decide_true, if_true, eTup_ap, aCons_ap, aNil_ap, eK_ap, List.length_cons, List.length_nil, Nat.zero_add, Nat.reduceAdd, h2l, dFin_ret, ansM]
theorem tellsU_way {many goal : Nat} {w : List (Option Nat)} (hm : 0 < many) (hw : WayOk many goal w) : TellsU (w.map dO) w goal := fun n p q _ => by
  have hp := posM_lt hm hw n p q
  rw [atI_nat_eq, List.getElem?_map, way_get hw hp]; rfl
theorem law_asked_ok {W : Web} {goal n : Nat} {w : List (Option Nat)} {rw : Rw} (h : WebOk W) (g : WayAt W goal w) (h2 : n ≤ 60) :
    d__law_asked [dWeb W, .int (goal : Int), .int (n : Int)] rw = .ok (ansM W.silent goal (posM w goal n), rw) :=
  law_asked_gen (mD := .int (W.many : Int)) (ways := W.ways.map dWay) g.ix (tellsU_way (by have := h.lo; omega) g.ok) h2
end HC
end
section
namespace HC
open PySem PySem.Spec L2 HD
theorem compL_mapM {α : Type} {tg : D → Dl → Option Dl} {c : EM Bool} {e : EM D} {lw : Dl} {rw : Rw} (f : α → D) (h : α → D) : ∀ xs : List α, (∀ x ∈ xs, ∃ l1, tg (f x) lw = some l1 ∧ c l1 rw = .ok (true, rw) ∧ e l1 rw = .ok (h x, rw)) → compL tg c e lw (xs.map f) rw = .ok (xs.map h, rw)
  | [], _ => rfl
  | x :: xs, hh => by
    obtain ⟨l1, h1, h2, h3⟩ := hh x (by simp)
    have ih := compL_mapM f h xs fun y hy => hh y (List.mem_cons_of_mem _ hy)
    rw [List.map_cons, List.map_cons]
    unfold compL
    rw [h1]
    simp only [h2, h3, noX_ok, bind_ok, if_true, ih]
theorem ansL_one {silent : List Nat} {w : List (Option Nat)} {goal n : Nat} : (List.range' 1 n).map (fun k => ansM silent goal (posM w goal k)) = ansL silent w goal n := by
  apply List.ext_getElem?
  intro i
  unfold ansL
  rw [List.getElem?_map, List.getElem?_map]
  by_cases hi : i < n
  · rw [List.getElem?_range' hi, List.getElem?_range' hi]
    simp [Nat.add_comm]
  · rw [List.getElem?_eq_none (by simp; omega), List.getElem?_eq_none (by simp; omega)]; rfl
theorem dNs_map (xs : List Nat) : dNs xs = xs.map fun (n : Nat) => D.int (n : Int) := rfl
theorem law_answers_ok {W : Web} {goal n : Nat} {w : List (Option Nat)} {rw : Rw} (h : WebOk W) (g : WayAt W goal w) (h2 : n ≤ 60) :
    d__law_answers [dWeb W, .int (goal : Int), .int (n : Int)] rw = .ok (.lst (ansL W.silent w goal n), rw) := by
  unfold d__law_answers
  rw [dDef3]
  have hr : rng2 [.int 1, .int ((n : Int) + 1)] = some ((List.range' 1 n).map fun (n : Nat) => D.int (n : Int)) := by
    have z := rng2_of' (i := 1) (j := (n : Int) + 1) (a := 1) (b := n + 1) rfl (by omega) (by decide) (by omega)
    rw [z, ← dNs_map, rangeD_dNs, Nat.add_sub_cancel]
  have e2 := compL_mapM (tg := gN 3) (c := cYes) (e := eCall d__law_asked (aCons (eV 0) (aCons (eV 1) (aCons (eV 3) aNil)))) (lw := [.val (dWeb W), .val (.int (goal : Int)), .val (.int (n : Int)), .no]) (rw := rw) (fun (n : Nat) => D.int (n : Int)) (fun k => ansM W.silent goal (posM w goal k)) (List.range' 1 n) fun k hk => ⟨[.val (dWeb W), .val (.int (goal : Int)), .val (.int (n : Int)), .val (.int (k : Int))], rfl, rfl, by
    have hk2 := List.mem_range'_1.mp hk
    have ea := law_asked_ok (rw := rw) (n := k) h g (by omega)
    simp -implicitDefEqProofs only [eCall_ap, aCons_ap, aNil_ap, eV_ap, List.getElem?_cons_succ, List.getElem?_cons_zero, getV_val, bind_ok, ea]⟩
  rw [ansL_one] at e2
  have hl2 : ((List.range' 1 n).map fun (n : Nat) => D.int (n : Int)).length ≤ sizeLine := sl_big (by simp; omega)
  have hw2 : wipeD [.val (dWeb W), .val (.int (goal : Int)), .val (.int (n : Int)), .no] [3] = [.val (dWeb W), .val (.int (goal : Int)), .val (.int (n : Int)), .no] := rfl
  unfold b__law_answers
  simp -implicitDefEqProofs only [List.replicate, sRet_ap, eComp_ap, aRng_ap, aCons_ap, aNil_ap, eK_ap, eBin_ap, eV_ap, List.getElem?_cons_succ, List.getElem?_cons_zero, getV_val, bind_ok, fAdd_int, ofO_some, hr, hl2, if_true, hw2, e2, dFin_ret]
theorem fit_ansM (n : Nat) (silent : List Nat) (goal : Nat) (o : Option Nat) : fit (n + 1) (ansM silent goal o) = true := by
  have h1 : fit (n + 1) nothingD = true := by
    unfold nothingD
    rw [fit_tup]
    simp only [List.all_cons, List.all_nil, fit_str]
    decide +kernel
  cases o with
  | none => exact h1
  | some p =>
    unfold ansM
    simp only []
    split
    · exact h1
    · rw [fit_tup]
      simp only [List.all_cons, List.all_nil, fit_str, fit_int]
      split <;> decide +kernel
theorem fit_ansL (n : Nat) (silent : List Nat) (w : List (Option Nat)) (goal k : Nat) : fit (n + 2) (.lst (ansL silent w goal k)) = true := by
  rw [fit_lst, List.all_eq_true]
  intro x hx
  unfold ansL at hx
  obtain ⟨i, _, rfl⟩ := List.mem_map.mp hx
  exact fit_ansM _ _ _ _
theorem len_ansM (n : Nat) (silent : List Nat) (goal : Nat) (o : Option Nat) : lenOk (n + 2) (ansM silent goal o) = true := by
  have h1 : lenOk (n + 2) nothingD = true := by
    unfold nothingD lenOk
    cases n <;> rfl
  cases o with
  | none => exact h1
  | some p =>
    unfold ansM
    simp only []
    split
    · exact h1
    · unfold lenOk
      simp only [List.all_cons, List.all_nil]
      cases n <;> rfl
theorem len_ansL (silent : List Nat) (w : List (Option Nat)) (goal k : Nat) (h : k ≤ 100) : lenOk 5 (.lst (ansL silent w goal k)) = true := by
  unfold lenOk
  rw [Bool.and_eq_true]
  refine ⟨decide_eq_true (by rw [ansL_len]; omega), ?_⟩
  rw [List.all_eq_true]
  intro x hx
  unfold ansL at hx
  obtain ⟨i, _, rfl⟩ := List.mem_map.mp hx
  exact len_ansM 2 _ _ _
theorem alike_ans {silent : List Nat} {w : List (Option Nat)} {goal k : Nat} {rw : Rw} (h : k ≤ 100) : d__law_alike [.lst (ansL silent w goal k), .lst (ansL silent w goal k)] rw = .ok (.bl true, rw) :=
  alike_ok (fit_ansL 3 _ _ _ _) (len_ansL _ _ _ _ h)
@[simp] theorem pNone_ap (l : Dl) (rw : Rw) : pNone l rw = .ok (none, rw) := rfl
@[simp] theorem pSome_ap (g : EM D) (l : Dl) (rw : Rw) : pSome g l rw = (g l rw).bind fun p => match p.1 with
  | .int i => .ok (some i, p.2)
  | _ => .stuck := rfl
@[simp] theorem eSl_ap (g : EM D) (lo hi : EM (Option Int)) (l : Dl) (rw : Rw) : eSl g lo hi l rw = (g l rw).bind fun p => (lo l p.2).bind fun q => (hi l q.2).bind fun r => ofO (fSl p.1 q.1 r.1) r.2 := rfl
theorem sIx_nat {n d i : Nat} (h : i ≤ n) : HT.sIx n d (some (i : Int)) = i := by
  rw [HT.sIx_nat]
  omega
theorem cut_to {xs : List D} {k : Nat} (h : k ≤ xs.length) : cutD xs none (some (k : Int)) = xs.take k := by
  unfold cutD
  rw [sIx_nat h]
  simp [HT.sIx]
theorem cut_from {xs : List D} {k : Nat} (h : k ≤ xs.length) : cutD xs (some (k : Int)) none = xs.drop k := by
  unfold cutD
  rw [sIx_nat h]
  show List.take (xs.length - k) (List.drop k xs) = _
  exact List.take_of_length_le (by simp)
theorem ansL_take {silent : List Nat} {w : List (Option Nat)} {goal n k : Nat} (h : k ≤ n) : (ansL silent w goal n).take k = ansL silent w goal k := by
  apply List.ext_getElem?
  intro i
  rw [List.getElem?_take]
  by_cases hi : i < k
  · rw [if_pos hi, ansL_get (by omega), ansL_get hi]
  · rw [if_neg hi, List.getElem?_eq_none (by rw [ansL_len]; omega)]
end HC
end
section
/-! Two trails that agree for twice as many hops as posts agree for ever. -/
namespace HC
open PySem PySem.Spec L2 HD
theorem per_two {α : Type} (a b : Nat → α) (μ p q N : Nat) (ha : ∀ i, μ ≤ i → a (i + p) = a i) (hb : ∀ i, μ ≤ i → b (i + q) = b i) (hp : 1 ≤ p) (hq : 1 ≤ q) (hN : μ + p + q ≤ N) (h : ∀ i, i < N → a i = b i) : ∀ i, a i = b i := by
  intro i
  induction i using Nat.strongRecOn with
  | _ i ih =>
    by_cases hi : i < N
    · exact h i hi
    · have e1 : a i = a (i - p) := by have := ha (i - p) (by omega); rwa [show i - p + p = i by omega] at this
      have e2 : b (i - p) = b (i - p - q) := by have := hb (i - p - q) (by omega); rwa [show i - p - q + q = i - p by omega] at this
      have e3 : a (i - q) = a (i - p - q) := by have := ha (i - p - q) (by omega); rwa [show i - p - q + p = i - q by omega] at this
      have e4 : b i = b (i - q) := by have := hb (i - q) (by omega); rwa [show i - q + q = i by omega] at this
      rw [e1, ih (i - p) (by omega), e2, ← ih (i - p - q) (by omega), ← e3, ih (i - q) (by omega), ← e4]
theorem posM_add {w : List (Option Nat)} {goal i j : Nat} (h : posM w goal i = posM w goal j) : ∀ k, posM w goal (i + k) = posM w goal (j + k)
  | 0 => h
  | k + 1 => by
    have ih := posM_add h k
    show hopM w goal (posM w goal (i + k)) = hopM w goal (posM w goal (j + k))
    rw [ih]
theorem not_nodup_ex {α : Type} [DecidableEq α] : ∀ l : List α, ¬ l.Nodup → ∃ i j, i < j ∧ j < l.length ∧ l[i]? = l[j]?
  | [], h => (h List.nodup_nil).elim
  | x :: xs, h => by
    by_cases hx : x ∈ xs
    · obtain ⟨j, hj, e⟩ := List.getElem_of_mem hx
      exact ⟨0, j + 1, by omega, by simp; exact hj, by simp [hj, e]⟩
    · have h2 : ¬ xs.Nodup := fun h2 => h (List.nodup_cons.mpr ⟨hx, h2⟩)
      obtain ⟨i, j, h3, h4, h5⟩ := not_nodup_ex xs h2
      exact ⟨i + 1, j + 1, by omega, by simp; exact h4, by simpa using h5⟩
/-- a trail comes round, or ends, soon -/
theorem posM_round {many goal : Nat} {w : List (Option Nat)} (hm : 0 < many) (hg : goal < many) (hw : WayOk many goal w) : ∃ μ p, 1 ≤ p ∧ μ + p ≤ many ∧ ∀ i, μ ≤ i → posM w goal (i + p) = posM w goal i := by
  by_cases hs : ∃ i, i < many ∧ (posM w goal i = none ∨ posM w goal i = some goal)
  · obtain ⟨i, hi, h⟩ := hs
    refine ⟨i, 1, by omega, by omega, fun j hj => ?_⟩
    have h1 := posM_stop h (j - i)
    have h2 := posM_stop h (j + 1 - i)
    rw [show i + (j - i) = j by omega] at h1
    rw [show i + (j + 1 - i) = j + 1 by omega] at h2
    rw [h1, h2]
  · have hv : ∀ i, i < many → ∃ p, posM w goal i = some p ∧ p < many ∧ p ≠ goal := fun i hi => by
      cases q : posM w goal i with
      | none => exact (hs ⟨i, hi, .inl q⟩).elim
      | some p => exact ⟨p, rfl, posM_lt hm hw i p q, fun e => hs ⟨i, hi, .inr (by rw [q, e])⟩⟩
    let L : List Nat := (List.range many).map fun i => (posM w goal i).getD 0
    have hL : ∀ i, i < many → ∃ p, L[i]? = some p ∧ posM w goal i = some p := fun i hi => by
      obtain ⟨p, h1, _⟩ := hv i hi
      refine ⟨p, ?_, h1⟩
      show ((List.range many).map fun i => (posM w goal i).getD 0)[i]? = some p
      rw [List.getElem?_map, List.getElem?_range hi]
      simp [h1]
    have hlen : L.length = many := by simp [L]
    have hnd : ¬ L.Nodup := fun hn => by
      have h1 : (goal :: L).Nodup := by
        refine List.nodup_cons.mpr ⟨fun hm => ?_, hn⟩
        obtain ⟨i, hi, e⟩ := List.mem_map.mp hm
        obtain ⟨p, h1, h2, h3⟩ := hv i (List.mem_range.mp hi)
        rw [h1] at e
        exact h3 e
      have h2 := nodup_lt_len (n := many) h1 fun p hp => by
        rcases List.mem_cons.mp hp with rfl | hp
        · exact hg
        · obtain ⟨i, hi, e⟩ := List.mem_map.mp hp
          obtain ⟨p', h1, h2, h3⟩ := hv i (List.mem_range.mp hi)
          rw [h1] at e
          simp at e
          omega
      simp [hlen] at h2
      omega
    obtain ⟨i, j, hij, hj, e⟩ := not_nodup_ex L hnd
    rw [hlen] at hj
    obtain ⟨p, h1, h2⟩ := hL i (by omega)
    obtain ⟨p', h3, h4⟩ := hL j hj
    rw [h1, h3] at e
    cases e
    refine ⟨i, j - i, by omega, by omega, fun k hk => ?_⟩
    have := posM_add (h4.trans h2.symm) (k - i)
    rw [show j + (k - i) = k + (j - i) by omega, show i + (k - i) = k by omega] at this
    exact this
/-- two webs' answers of one goal -/
theorem agree_all {many goal : Nat} {w v : List (Option Nat)} {S T : List Nat} (hm : 0 < many) (h1 : 1 ≤ goal) (hg : goal < many) (hw : WayOk many goal w) (hv : WayOk many goal v) (hS : 0 ∉ S) (hT : 0 ∉ T)
    (h : ∀ i, 1 ≤ i → i ≤ 2 * many → ansM S goal (posM w goal i) = ansM T goal (posM v goal i)) : ∀ i, ansM S goal (posM w goal i) = ansM T goal (posM v goal i) := by
  obtain ⟨μ, p, p1, p2, p3⟩ := posM_round hm hg hw
  obtain ⟨ν, q, q1, q2, q3⟩ := posM_round hm hg hv
  refine per_two (fun i => ansM S goal (posM w goal i)) (fun i => ansM T goal (posM v goal i)) (max μ ν) p q (2 * many) (fun i hi => ?_) (fun i hi => ?_) p1 q1 ?_ fun i hi => ?_
  · show ansM S goal _ = ansM S goal _
    rw [p3 i (by omega)]
  · show ansM T goal _ = ansM T goal _
    rw [q3 i (by omega)]
  · omega
  · by_cases h0 : i = 0
    · subst h0
      show ansM S goal (some 0) = ansM T goal (some 0)
      unfold ansM
      simp only [hS, hT, if_false]
    · exact h i (by omega) (by omega)
end HC
end
section
namespace HC
open PySem PySem.Spec L2 HD
theorem compL_nat {tg : D → Dl → Option Dl} {c : EM Bool} {e : EM D} {lw : Dl} {rw : Rw} (b : Nat → Bool) : ∀ xs : List Nat, (∀ x ∈ xs, ∃ l1, tg (.int (x : Int)) lw = some l1 ∧ c l1 rw = .ok (b x, rw) ∧ e l1 rw = .ok (.int (x : Int), rw)) → compL tg c e lw (dNs xs) rw = .ok (dNs (xs.filter b), rw)
  | [], _ => rfl
  | x :: xs, hh => by
    obtain ⟨l1, h1, h2, h3⟩ := hh x (by simp)
    have ih := compL_nat b xs fun y hy => hh y (List.mem_cons_of_mem _ hy)
    show compL tg c e lw (.int (x : Int) :: dNs xs) rw = _
    unfold compL
    rw [h1]
    cases q : b x with
    | true =>
      rw [List.filter_cons, if_pos q]
      simp only [h2, h3, q, noX_ok, bind_ok, if_true, ih]
      rfl
    | false =>
      rw [List.filter_cons, if_neg (by rw [q]; simp)]
      simp only [h2, q, noX_ok, bind_ok, Bool.false_eq_true, if_false, ih]
def oth (n i : Nat) : List Nat := (List.range' 0 n).filter fun j => !decide (j = i)
theorem oth_mem {n i j : Nat} (h : j ∈ oth n i) : j < n ∧ j ≠ i := by
  unfold oth at h
  rw [List.mem_filter] at h
  have := List.mem_range'_1.mp h.1
  have h2 := h.2
  simp at h2
  omega
theorem oth_len : ∀ n i : Nat, i < n → (oth n i).length = n - 1 := by
  intro n i hi
  have h : ∀ n, (oth n i).length + (if i < n then 1 else 0) = n := by
    intro n
    induction n with
    | zero => rfl
    | succ n ih =>
      unfold oth at ih ⊢
      rw [List.range'_concat, List.filter_append, List.length_append]
      by_cases e : n = i
      · subst e
        simp at ih ⊢
        omega
      · have : ((List.filter (fun j => !decide (j = i)) [0 + 1 * n])).length = 1 := by simp [e]
        rw [this]
        split at ih <;> rename_i h1 <;> split <;> omega
  have := h n
  rw [if_pos hi] at this
  omega
theorem fAdd_tup (xs ys : List D) (h : xs.length + ys.length ≤ 100000) : fAdd (.tup xs) (.tup ys) = some (.tup (xs ++ ys)) := by
  have : xs.length + ys.length ≤ sizeLine := sl_big h
  simp [fAdd, this]
theorem fAdd_lst (xs ys : List D) (h : xs.length + ys.length ≤ 100000) : fAdd (.lst xs) (.lst ys) = some (.lst (xs ++ ys)) := by
  have : xs.length + ys.length ≤ sizeLine := sl_big h
  simp [fAdd, this]
theorem fSl_tup (xs : List D) (lo hi : Option Int) : fSl (.tup xs) lo hi = some (.tup (cutD xs lo hi)) := rfl
theorem fSl_lst (xs : List D) (lo hi : Option Int) : fSl (.lst xs) lo hi = some (.lst (cutD xs lo hi)) := rfl
theorem splice {α : Type} (f : α → D) (xs : List α) (k : Nat) (o : α) (h : k < xs.length) : cutD (xs.map f) none (some (k : Int)) ++ [f o] ++ cutD (xs.map f) (some ((k : Int) + 1)) none = (xs.set k o).map f := by
  rw [cut_to (by simp; omega), show (k : Int) + 1 = ((k + 1 : Nat) : Int) by omega, cut_from (by simp; omega), List.set_eq_take_append_cons_drop, if_pos h, List.map_append, List.map_cons, List.map_take, List.map_drop, List.append_assoc]
  rfl
theorem cutD_len (xs : List D) (lo hi : Option Int) : (cutD xs lo hi).length ≤ xs.length := by
  unfold cutD
  rw [List.length_take, List.length_drop]
  omega
theorem way_set {many goal p : Nat} {w : List (Option Nat)} {o : Option Nat} (hw : WayOk many goal w) (hp : p ≠ goal) (ho : ∀ v, o = some v → v < many ∧ v ≠ p) : WayOk many goal (w.set p o) := by
  refine ⟨by rw [List.length_set]; exact hw.len, ?_, fun i v h => ?_⟩
  · rw [List.getElem?_set_ne hp]; exact hw.at_
  · by_cases e : p = i
    · subst e
      rw [List.getElem?_set] at h
      simp at h
      exact ho v h.2
    · rw [List.getElem?_set_ne e] at h
      exact hw.go i v h
theorem web_set {W : Web} {k : Nat} {w : List (Option Nat)} (h : WebOk W) (hk : k < W.many - 1) (hw : WayOk W.many (k + 1) w) : WebOk ⟨W.many, W.silent, W.ways.set k w⟩ := by
  refine ⟨h.lo, h.hi, h.sort, h.sil, by show (W.ways.set k w).length = _; rw [List.length_set]; exact h.len, fun g h1 h2 => ?_⟩
  have h2 : g < W.many := h2
  show ∃ w', (W.ways.set k w)[g - 1]? = some w' ∧ _
  by_cases e : k = g - 1
  · subst e
    rw [List.getElem?_set]
    refine ⟨w, ?_, ?_⟩
    · have := h.len
      simp
      omega
    · rwa [show g - 1 + 1 = g by omega] at hw
  · rw [List.getElem?_set_ne e]
    exact h.way g h1 h2
end HC
end
section
/-! Parting, plainly. -/
namespace HC
open PySem PySem.Spec L2 HD
/-- a loop over numbers that looks for something -/
theorem loop_find {tg : D → Dl → Option Dl} {body : SM} (inv : Dl → Prop) (f : Nat → Option D) (rw : Rw) : ∀ (xs : List Nat) (l : Dl), inv l → (∀ x ∈ xs, ∀ l, inv l → ∃ l1, tg (.int (x : Int)) l = some l1 ∧ ((f x = none ∧ ∃ l2, body l1 rw = .ok (.next, l2, rw) ∧ inv l2) ∨ (∃ d l2, f x = some d ∧ body l1 rw = .ok (.ret d, l2, rw)))) →
    (xs.findSome? f = none ∧ ∃ l', sLoop tg body (dNs xs) l rw = .ok (.next, l', rw) ∧ inv l') ∨ (∃ d l', xs.findSome? f = some d ∧ sLoop tg body (dNs xs) l rw = .ok (.ret d, l', rw))
  | [], l, hl, _ => .inl ⟨rfl, l, rfl, hl⟩
  | x :: xs, l, hl, h => by
    obtain ⟨l1, h1, h2⟩ := h x (by simp) l hl
    have es : sLoop tg body (dNs (x :: xs)) l rw = sLoop tg body (.int (x : Int) :: dNs xs) l rw := rfl
    rw [es]
    unfold sLoop
    rw [h1]
    rcases h2 with ⟨h2, l2, h3, h4⟩ | ⟨d, l2, h2, h3⟩
    · rw [List.findSome?_cons, h2]
      simp only [h3, bind_ok]
      exact loop_find inv f rw xs l2 h4 fun y hy => h y (List.mem_cons_of_mem _ hy)
    · rw [List.findSome?_cons, h2]
      simp only [h3, bind_ok]
      exact .inr ⟨d, l2, rfl, rfl⟩
def isAns (d : D) : Prop := d = nothingD ∨ ∃ (s : Str) (i : Int), d = .tup [.str s, .int i]
theorem isAns_of (S : List Nat) (g : Nat) (o : Option Nat) : isAns (ansM S g o) := by
  cases o with
  | none => exact .inl rfl
  | some p =>
    unfold ansM
    simp only []
    split
    · exact .inl rfl
    · exact .inr ⟨_, _, rfl⟩
theorem eqD_isAns {d e : D} (h : isAns d) (h' : isAns e) : eqD d e = true ↔ d = e := by
  rcases h with rfl | ⟨s, i, rfl⟩ <;> rcases h' with rfl | ⟨t, j, rfl⟩
  · simp [nothingD]
  · simp [nothingD]
  · simp [nothingD]
  · simp
def wayOf (W : Web) (g : Nat) : List (Option Nat) := (W.ways[g - 1]?).getD []
theorem wayOf_at {W : Web} (h : WebOk W) {g : Nat} (h1 : 1 ≤ g) (h2 : g < W.many) : WayAt W g (wayOf W g) := by
  obtain ⟨w, hw⟩ := h.wayAt h1 h2
  have : wayOf W g = w := by unfold wayOf; rw [hw.at_]; rfl
  rw [this]
  exact hw
def told (W : Web) (g h : Nat) : D := ansM W.silent g (posM (wayOf W g) g h)
def diffAt (A B : Web) (g h : Nat) : Bool := !eqD (told A g h) (told B g h)
theorem diffAt_comm (A B : Web) (g h : Nat) : diffAt A B g h = diffAt B A g h := by
  unfold diffAt told
  congr 1
  rw [Bool.eq_iff_iff, eqD_isAns (isAns_of _ _ _) (isAns_of _ _ _), eqD_isAns (isAns_of _ _ _) (isAns_of _ _ _)]
  exact eq_comm
theorem fNe_told (A B : Web) (g h : Nat) : fNe (told A g h) (told B g h) = some (.bl (diffAt A B g h)) := by
  unfold fNe
  rw [if_pos ⟨fit_ansM 7 _ _ _, fit_ansM 7 _ _ _⟩]
  rfl
def hopF (A B : Web) (g h : Nat) : Option D := if diffAt A B g h = true then some (.tup [.int (g : Int), .int (h : Int)]) else none
def goalF (A B : Web) (n g : Nat) : Option D := (List.range' 1 n).findSome? (hopF A B g)
def partF (A B : Web) (n : Nat) : Option D := (List.range' 1 (A.many - 1)).findSome? (goalF A B n)
def partR (A B : Web) (n : Nat) : D := (partF A B n).getD .non
theorem hopF_comm (A B : Web) (g : Nat) : hopF A B g = hopF B A g := by
  funext h
  unfold hopF
  rw [diffAt_comm]
theorem partR_comm {A B : Web} (e : A.many = B.many) (n : Nat) : partR A B n = partR B A n := by
  unfold partR partF
  rw [e]
  have : goalF A B n = goalF B A n := by
    funext g
    unfold goalF
    rw [hopF_comm]
  rw [this]
theorem findSome_congr {α β : Type} {f g : α → Option β} : ∀ {xs : List α}, (∀ x ∈ xs, f x = g x) → xs.findSome? f = xs.findSome? g
  | [], _ => rfl
  | x :: xs, h => by
    rw [List.findSome?_cons, List.findSome?_cons, h x (by simp), findSome_congr fun y hy => h y (List.mem_cons_of_mem _ hy)]
theorem zero_silent {W : Web} (h : WebOk W) : 0 ∉ W.silent := fun z => by have := h.sil 0 z; omega
theorem goal_60 {A B : Web} (hA : WebOk A) (hB : WebOk B) (e : A.many = B.many) {g : Nat} (h1 : 1 ≤ g) (h2 : g < A.many) : goalF A B 60 g = goalF A B (2 * A.many) g := by
  unfold goalF
  have hm := hA.hi
  have es : List.range' 1 60 = List.range' 1 (2 * A.many) ++ List.range' (1 + 2 * A.many) (60 - 2 * A.many) := by
    have := List.range'_append_1 (s := 1) (m := 2 * A.many) (n := 60 - 2 * A.many)
    rw [this]
    congr 1
    omega
  rw [es, List.findSome?_append]
  cases q : (List.range' 1 (2 * A.many)).findSome? (hopF A B g) with
  | some d => rfl
  | none =>
    rw [Option.none_or]
    rw [List.findSome?_eq_none_iff] at q ⊢
    have ha := wayOf_at hA h1 h2
    have hb := wayOf_at hB h1 (by omega)
    have key := agree_all (many := A.many) (S := A.silent) (T := B.silent) (by omega) h1 h2 ha.ok (e ▸ hb.ok) (zero_silent hA) (zero_silent hB) fun i i1 i2 => by
      have := q i (List.mem_range'_1.mpr ⟨i1, by omega⟩)
      unfold hopF at this
      split at this
      · cases this
      · rename_i hd
        unfold diffAt at hd
        simp at hd
        exact (eqD_isAns (isAns_of _ _ _) (isAns_of _ _ _)).mp hd
    intro i _
    unfold hopF
    have hd : diffAt A B g i = false := by
      unfold diffAt told
      rw [(eqD_isAns (isAns_of _ _ _) (isAns_of _ _ _)).mpr (key i)]
      rfl
    rw [hd]
    rfl
theorem part_60 {A B : Web} (hA : WebOk A) (hB : WebOk B) (e : A.many = B.many) : partR A B 60 = partR A B (2 * A.many) := by
  unfold partR partF
  congr 1
  refine findSome_congr fun g hg => ?_
  have := List.mem_range'_1.mp hg
  exact goal_60 hA hB e (by omega) (by omega)
/-! ### the law's -/
end HC
end
section
/-! Plain lemmas: dicts, with_end. -/
namespace HC
open PySem PySem.Spec L2 HD
section
variable (l : Dl) (rw : Rw)
theorem sDput_ap (i : Nat) (gk gv : EM D) : sDput i gk gv l rw = match l[i]? with
  | some (.own (.dic ks xs)) => (gv l rw).bind fun p => (gk l p.2).bind fun q => match q.1 with
    | .int k => if ks.length < 100000 then .ok (.next, l.set i (.own (.dic (putKs ks k) (putXs ks xs k p.1))), q.2) else .stuck
    | _ => .stuck
  | _ => .stuck := rfl
theorem sPop0_ap (i : Nat) (tg : D → Dl → Option Dl) : sPop0 i tg l rw = match l[i]? with
  | some (.own (.lst (d :: ds))) => (match tg d (l.set i (.own (.lst ds))) with
      | some l' => .ok (.next, l', rw)
      | none => .stuck)
  | _ => .stuck := rfl
theorem sPopG_ap (i : Nat) (tg : D → Dl → Option Dl) : sPopG i tg l rw = match l[i]? with
  | some (.own (.lst ds)) => (match ds.getLast? with
    | some d => (match tg d (l.set i (.own (.lst ds.dropLast))) with
      | some l' => .ok (.next, l', rw)
      | none => .stuck)
    | none => .stuck)
  | _ => .stuck := rfl
theorem eLRg1_ap (g : EM D) : eLRg1 g l rw = (g l rw).bind fun p => match p.1 with
  | .int n => if -1000000 ≤ n ∧ n ≤ 1000000 then .ok (.lst (rangeD 0 n.toNat), p.2) else .stuck
  | _ => .stuck := rfl
theorem sWhile_succ (c : EM Bool) (body : SM) (n : Nat) : sWhile c body (n + 1) l rw = (c l rw).bind fun p => if p.1 = true then (body l p.2).bind fun q => match q.1 with
      | .next => sWhile c body n q.2.1 q.2.2
      | .cont => sWhile c body n q.2.1 q.2.2
      | .brk => .ok (.next, q.2)
      | .ret d => .ok (.ret d, q.2)
    else .ok (.next, l, p.2) := rfl
theorem aKeys_ap (g : EM D) : aKeys g l rw = (g l rw).bind fun p => match p.1 with
  | .dic ks xs => .ok (ks.map .int, p.2)
  | _ => .stuck := rfl
theorem eVals_ap (g : EM D) : eVals g l rw = (g l rw).bind fun p => match p.1 with
  | .dic _ xs => .ok (.lst xs, p.2)
  | _ => .stuck := rfl
theorem eGet2_ap (gd gk gx : EM D) : eGet2 gd gk gx l rw = (gd l rw).bind fun p => match p.1 with
  | .dic ks xs => (gk l p.2).bind fun q => (gx l q.2).bind fun t => (match q.1 with
    | .int k => .ok ((lkD ks xs k).getD t.1, t.2)
    | _ => .stuck)
  | _ => .stuck := rfl
theorem sStore_ap (i : Nat) (gk gv : EM D) : sStore i gk gv l rw = match l[i]? with
  | some (.own (.lst ds)) => (gv l rw).bind fun p => (gk l p.2).bind fun q => (match q.1 with
    | .int k => (match ixN ds.length k with
      | some j => .ok (.next, l.set i (.own (.lst (ds.set j p.1))), q.2)
      | none => .stuck)
    | _ => .stuck)
  | _ => .stuck := rfl
theorem eNotRg_ap (gx g1 g2 : EM D) : eNotRg gx g1 g2 l rw = (gx l rw).bind fun p => (g1 l p.2).bind fun q => (g2 l q.2).bind fun t => match p.1, q.1, t.1 with
  | .int x, .int a, .int b => .ok (.bl (!decide (a ≤ x ∧ x < b)), t.2)
  | _, _, _ => .stuck := rfl
theorem eNotRg1_ap (gx g2 : EM D) : eNotRg1 gx g2 l rw = (gx l rw).bind fun p => (g2 l p.2).bind fun t => match p.1, t.1 with
  | .int x, .int b => .ok (.bl (!decide (0 ≤ x ∧ x < b)), t.2)
  | _, _ => .stuck := rfl
end
theorem fIxD_dic (ks : List Int) (xs : List D) (k : Int) : fIxD (.dic ks xs) (.int k) = lkD ks xs k := rfl
theorem fIxD_tup (xs : List D) (k : Int) : fIxD (.tup xs) (.int k) = L2.atI xs k := rfl
theorem fIxD_lst (xs : List D) (k : Int) : fIxD (.lst xs) (.int k) = L2.atI xs k := rfl
theorem fDin_dic (neg : Bool) (k : Int) (ks : List Int) (xs : List D) : fDin neg (.int k) (.dic ks xs) = some (.bl (if neg = true then !(lkD ks xs k).isSome else (lkD ks xs k).isSome)) := rfl
theorem rng1_ofL {j : Int} {n : Nat} (h : j = (n : Int)) (hn : n ≤ 1000000) : rng1 [.int j] = some (rangeD 0 n) := by
  subst h
  rw [rng1_ap, if_pos (by omega), Int.toNat_natCast]
/-- a dict of posts -/
abbrev Dc : Type := List (Nat × Option Nat)
def dKs {α : Type} (δ : List (Nat × α)) : List Int := δ.map fun p => (p.1 : Int)
def dDic (δ : Dc) : D := .dic (dKs δ) (δ.map fun p => dO p.2)
theorem lk_map {α : Type} (f : α → D) (k : Nat) : ∀ δ : List (Nat × α), lkD (dKs δ) (δ.map fun p => f p.2) (k : Int) = (δ.lookup k).map f
  | [] => rfl
  | (j, x) :: δ => by
    have ih := lk_map f k δ
    unfold dKs at ih ⊢
    rw [List.map_cons, List.map_cons, lkD, List.lookup_cons]
    by_cases h : j = k
    · subst h; simp
    · have h1 : ¬ (j : Int) = (k : Int) := by omega
      have h2 : (k == j) = false := by simpa using fun e => h e.symm
      rw [if_neg h1, h2, ih]
theorem lk_dDic (δ : Dc) (k : Nat) : lkD (dKs δ) (δ.map fun p => dO p.2) (k : Int) = (δ.lookup k).map dO := lk_map dO k δ
theorem put_new {α : Type} (f : α → D) (δ : List (Nat × α)) (k : Nat) (x : α) (h : k ∉ δ.map (·.1)) : putKs (dKs δ) (k : Int) = dKs (δ ++ [(k, x)]) ∧ putXs (dKs δ) (δ.map fun p => f p.2) (k : Int) (f x) = (δ ++ [(k, x)]).map fun p => f p.2 := by
  have h1 : (k : Int) ∉ dKs δ := fun z => by
    unfold dKs at z
    obtain ⟨p, hp, e⟩ := List.mem_map.mp z
    exact h (List.mem_map.mpr ⟨p, hp, by omega⟩)
  unfold putKs putXs
  rw [if_neg h1, if_neg h1]
  simp [dKs]
/-- the dict of a path that ends by o -/
def wend : List Nat → Option Nat → Dc
  | [], _ => []
  | [p], o => [(p, o)]
  | p :: q :: P, o => (p, some q) :: wend (q :: P) o
theorem wend_keys : ∀ (P : List Nat) (o : Option Nat), (wend P o).map (·.1) = P
  | [], _ => rfl
  | [p], _ => rfl
  | p :: q :: P, o => by simp [wend, wend_keys (q :: P) o]
theorem wend_len (P : List Nat) (o : Option Nat) : (wend P o).length = P.length := by have := congrArg List.length (wend_keys P o); simpa using this
theorem wend_get : ∀ (P : List Nat) (o : Option Nat) (i p : Nat), P[i]? = some p → (wend P o)[i]? = some (p, if i + 1 < P.length then P[i + 1]? else o)
  | [], _, i, p, h => by simp at h
  | [q], o, i, p, h => by
    cases i with
    | zero => simp at h; subst h; simp [wend]
    | succ i => simp at h
  | a :: b :: P, o, i, p, h => by
    cases i with
    | zero => simp at h; subst h; simp [wend]
    | succ i =>
      have := wend_get (b :: P) o i p (by simpa using h)
      simp only [wend, List.getElem?_cons_succ]
      rw [this]
      simp
theorem wend_concat (P : List Nat) (q : Nat) (o : Option Nat) : wend (P ++ [q]) o = wend P (some q) ++ [(q, o)] := by
  induction P with
  | nil => rfl
  | cons a P ih =>
    cases P with
    | nil => rfl
    | cons b P => simp only [List.cons_append, wend] at ih ⊢; rw [ih]
theorem dNs_getI (P : List Nat) (i p : Nat) (h : P[i]? = some p) : L2.atI (dNs P) (i : Int) = some (.int (p : Int)) := by
  rw [atI_nat_eq, dNs_get, h]; rfl
def weB : SM := (sDput 2 (eBin fIx (eV 0) (eV 3)) (eBin fIx (eV 0) (eBin fAdd (eV 3) (eK (.int 1)))))
/-- the first k of the pairs -/
theorem with_end_loop {P : List Nat} {rw : Rw} (hn : P.Nodup) (hl : P.length ≤ 1000) (o : Option Nat) (x1 : Sl) : ∀ (k : Nat), k + 1 ≤ P.length → ∀ x3 : Sl, ∃ x3',
    sLoop (gN 3) weB (rangeD 0 k) [.val (.tup (dNs P)), x1, .own (.dic [] []), x3] rw = .ok (.next, [.val (.tup (dNs P)), x1, .own (dDic ((wend P o).take k)), x3'], rw) := by
  have key : ∀ (j k : Nat), k + j + 1 ≤ P.length → ∀ x3 : Sl, ∃ x3', sLoop (gN 3) weB (rangeD (k : Int) j) [.val (.tup (dNs P)), x1, .own (dDic ((wend P o).take k)), x3] rw = .ok (.next, [.val (.tup (dNs P)), x1, .own (dDic ((wend P o).take (k + j))), x3'], rw) := by
    intro j
    induction j with
    | zero => intro k _ x3; exact ⟨x3, by simp [rangeD, sLoop]⟩
    | succ j ih =>
      intro k hk x3
      have hkP : k < P.length := by omega
      have g0 : P[k]? = some P[k] := List.getElem?_eq_getElem hkP
      have g1 : P[k + 1]? = some P[k + 1] := List.getElem?_eq_getElem (by omega)
      have e1 := dNs_getI P k _ g0
      have e2 := dNs_getI P (k + 1) _ g1
      have e2' : L2.atI (dNs P) ((k : Int) + 1) = some (.int ((P[k + 1] : Nat) : Int)) := by rw [← e2]; congr 1
      have hw := wend_get P o k _ g0
      rw [if_pos (by omega : k + 1 < P.length), g1] at hw
      have ht : (wend P o).take (k + 1) = (wend P o).take k ++ [(P[k], some P[k + 1])] := by
        rw [List.take_succ, hw]; rfl
      have hnk : P[k] ∉ ((wend P o).take k).map (·.1) := by
        rw [List.map_take, wend_keys]
        intro z
        obtain ⟨i, hi, e⟩ := List.mem_take_iff_getElem.mp z
        have hi' : i < k := by omega
        have := (List.getElem_inj hn).mp e
        omega
      obtain ⟨p1, p2⟩ := put_new dO ((wend P o).take k) P[k] (some P[k + 1]) hnk
      have hlen : (dKs ((wend P o).take k)).length < 100000 := by
        unfold dKs; rw [List.length_map, List.length_take]; omega
      obtain ⟨x3', ei⟩ := ih (k + 1) (by omega) (.val (.int (k : Int)))
      refine ⟨x3', ?_⟩
      have er : rangeD (k : Int) (j + 1) = .int (k : Int) :: rangeD ((k + 1 : Nat) : Int) j := by
        unfold rangeD
        rw [List.range_succ_eq_map, List.map_cons, List.map_map]
        refine congr (congrArg List.cons (by simp)) (List.map_congr_left fun a _ => ?_)
        show D.int _ = D.int _
        congr 1
        show (k : Int) + ((a + 1 : Nat) : Int) = ((k + 1 : Nat) : Int) + (a : Int)
        omega
      rw [er, sLoop]
      have eb : weB ([.val (.tup (dNs P)), x1, .own (dDic ((wend P o).take k)), .val (.int (k : Int))] : Dl) rw = .ok (.next, [.val (.tup (dNs P)), x1, .own (dDic ((wend P o).take (k + 1))), .val (.int (k : Int))], rw) := by
        rw [ht]
        unfold weB dDic
        simp -implicitDefEqProofs only [sDput_ap, eBin_ap, eV_ap, eK_ap, List.getElem?_cons_succ, List.getElem?_cons_zero, getV_val, bind_ok, fAdd_int, ofO_some, fIx_tup, e1, e2', hlen, if_true, List.set_cons_succ, List.set_cons_zero]
        have p2' : putXs (dKs ((wend P o).take k)) (((wend P o).take k).map fun p => dO p.2) (P[k] : Int) (.int ((P[k + 1] : Nat) : Int)) = _ := p2
        rw [p1, p2']
      simp only [gN_ap, List.set_cons_succ, List.set_cons_zero]
      rw [eb]
      simp only [bind_ok]
      rw [ei]
      have : k + 1 + j = k + (j + 1) := by omega
      rw [this]
  intro k hk x3
  have := key k 0 (by omega) x3
  rw [Nat.zero_add] at this
  simpa [dDic, dKs] using this
theorem with_end_ok {P : List Nat} {rw : Rw} (hn : P.Nodup) (h0 : P ≠ []) (hl : P.length ≤ 1000) (o : Option Nat) : d_with_end [.tup (dNs P), dO o] rw = .ok (dDic (wend P o), rw) := by
  unfold d_with_end
  rw [dDef2]
  obtain ⟨n, hn1⟩ : ∃ n, P.length = n + 1 := ⟨P.length - 1, by have := List.length_pos_iff.mpr h0; omega⟩
  obtain ⟨x3', e⟩ := with_end_loop (rw := rw) hn hl o (.val (dO o)) n (by omega) .no
  have eb : b_with_end = (sSeq (sSetO 2 (eK (.dic [] []))) (sSeq (sFor (aRng rng1 (aCons (eBin fSub (eArgs fLen (aCons (eV 0) aNil)) (eK (.int 1))) aNil)) (gN 3) weB) (sSeq (sDput 2 (eBin fIx (eV 0) (eUn fNeg (eK (.int 1)))) (eV 1)) (sRetV 2)))) := rfl
  have hr : rng1 [.int (((dNs P).length : Nat) - 1 : Int)] = some (rangeD 0 n) := rng1_ofL (by rw [dNs_len]; omega) (by omega)
  have hlast : L2.atI (dNs P) (-1) = some (.int (P[n] : Int)) := by
    have hP : P = P.take n ++ [P[n]] := by
      conv => lhs; rw [← List.take_append_drop n P]
      congr 1
      rw [List.drop_eq_getElem_cons (by omega)]
      congr 1
      exact List.drop_eq_nil_of_le (by omega)
    conv => lhs; rw [hP]
    exact atI_last' _ _
  have g0 : P[n]? = some P[n] := List.getElem?_eq_getElem (by omega)
  have hw := wend_get P o n _ g0
  rw [if_neg (by omega : ¬ n + 1 < P.length)] at hw
  have ht : wend P o = (wend P o).take n ++ [(P[n], o)] := by
    conv => lhs; rw [← List.take_append_drop n (wend P o)]
    congr 1
    have hlw : n < (wend P o).length := by rw [wend_len]; omega
    rw [List.drop_eq_getElem_cons hlw]
    rw [List.getElem?_eq_getElem hlw] at hw
    rw [Option.some.inj hw]
    congr 1
    exact List.drop_eq_nil_of_le (by rw [wend_len]; omega)
  have hnk : P[n] ∉ ((wend P o).take n).map (·.1) := by
    rw [List.map_take, wend_keys]
    intro z
    obtain ⟨i, hi, e⟩ := List.mem_take_iff_getElem.mp z
    have := (List.getElem_inj hn).mp e
    omega
  obtain ⟨p1, p2⟩ := put_new dO ((wend P o).take n) P[n] o hnk
  have hlen : (dKs ((wend P o).take n)).length < 100000 := by
    unfold dKs; rw [List.length_map, List.length_take]; omega
  rw [eb]
  unfold dDic at e
  simp -implicitDefEqProofs only [List.replicate, sSeq_ap, sSetO_ap, eK_ap, bind_ok, List.set_cons_succ, List.set_cons_zero, seqK_next, sFor_ap, aRng_ap, aCons_ap, aNil_ap, eBin_ap, eArgs_ap, eV_ap, List.getElem?_cons_succ, List.getElem?_cons_zero, getV_val, fLen_tup, ofO_some, fSub_int, hr, e, sDput_ap, eUn_ap, fNeg_int, fIx_tup, hlast, hlen, if_true, sRetV_ap, dFin_ret, p1, p2]
  rw [← ht]
  rfl
end HC
end
section
/-! Plain lemmas: all_ways. -/
namespace HC
open PySem PySem.Spec L2 HD
def dP (P : List Nat) : D := .tup (dNs P)
def opts (m : Nat) : List (Option Nat) := none :: (List.range' 0 m).map some
def aF (g : Nat) (P : List Nat) (t : Option Nat) : List Dc := if t = P.getLast? then [] else match t with
  | none => [wend P none]
  | some v => if v = g ∨ v ∈ P then [wend P (some v)] else []
def aL (g : Nat) (P : List Nat) (t : Option Nat) : List (List Nat) := match t with
  | none => []
  | some v => if v = g ∨ v ∈ P then [] else [P ++ [v]]
def aRun (m g : Nat) : Nat → List Dc → List (List Nat) → Option (List Dc)
  | 0, _, _ => none
  | _ + 1, f, [] => some f
  | n + 1, f, P :: L => aRun m g n (f ++ (opts m).flatMap (aF g P)) (L ++ (opts m).flatMap (aL g P))
/-- a path of posts from 0 on -/
structure Path (m g : Nat) (P : List Nat) : Prop where
  h0 : P[0]? = some 0
  nd : P.Nodup
  lt : ∀ p ∈ P, p < m ∧ p ≠ g
theorem Path.ne {m g : Nat} {P : List Nat} (h : Path m g P) : P ≠ [] := fun e => by have := h.h0; rw [e] at this; simp at this
theorem Path.len {m g : Nat} {P : List Nat} (h : Path m g P) : P.length ≤ m := nodup_lt_len h.nd fun p hp => (h.lt p hp).1
theorem Path.last {m g : Nat} {P : List Nat} (h : Path m g P) : ∃ Q q, P = Q ++ [q] ∧ P.getLast? = some q := by
  have : P ≠ [] := h.ne
  refine ⟨P.dropLast, P.getLast this, (List.dropLast_concat_getLast this).symm, List.getLast?_eq_some_getLast this⟩
theorem Path.snoc {m g v : Nat} {P : List Nat} (h : Path m g P) (h1 : v < m) (h2 : v ≠ g) (h3 : v ∉ P) : Path m g (P ++ [v]) := by
  refine ⟨?_, ?_, fun p hp => ?_⟩
  · have := h.h0
    cases P with
    | nil => simp at this
    | cons a P => simpa using this
  · rw [List.nodup_append]
    refine ⟨h.nd, by simp, fun a ha b hb => ?_⟩
    rw [List.mem_singleton.mp hb]
    intro e
    exact h3 (e ▸ ha)
  · rcases List.mem_append.mp hp with hp | hp
    · exact h.lt p hp
    · rw [List.mem_singleton.mp hp]; exact ⟨h1, h2⟩
def awB : SM := (sSeq (sIf (toB (eBin fEq (eV 5) (eBin fIx (eV 4) (eUn fNeg (eK (.int 1)))))) sCont sNext) (sIf (tOr' (toB (eUn isNonD (eV 5))) (tOr' (toB (eBin fEq (eV 5) (eV 1))) (toB (eBin (fIn false) (eV 5) (eV 4))))) (sMut "list" 2 fAppend (aCons (eCall d_with_end (aCons (eV 4) (aCons (eV 5) aNil))) aNil)) (sMut "list" 3 fAppend (aCons (eBin fAdd (eV 4) (eTup (aCons (eV 5) aNil))) aNil))))
theorem fEq_non_int (i : Int) : fEq .non (.int i) = some (.bl false) := by unfold fEq; rw [if_pos (by simp)]; simp
theorem awB_ok {m g : Nat} {P : List Nat} {rw : Rw} (hP : Path m g P) (hm : m ≤ 6) (f : List D) (L : List D) (hf : f.length ≤ 10000) (hL : L.length ≤ 10000) (t : Option Nat) :
    awB [.val (.int (m : Int)), .val (.int (g : Int)), .own (.lst f), .own (.lst L), .val (dP P), .val (dO t)] rw =
      .ok (if t = P.getLast? then .cont else .next, [.val (.int (m : Int)), .val (.int (g : Int)), .own (.lst (f ++ (aF g P t).map dDic)), .own (.lst (L ++ (aL g P t).map dP)), .val (dP P), .val (dO t)], rw) := by
  obtain ⟨Q, q, e, eq⟩ := hP.last
  have hl1 : f.length < sizeLine := sl_lt (by omega)
  have hl2 : L.length < sizeLine := sl_lt (by omega)
  have hlast : L2.atI (dNs P) (-1) = some (.int (q : Int)) := by rw [e]; exact atI_last' _ _
  have hq : q ∈ P := by rw [e]; simp
  have hwe := fun o => with_end_ok (rw := rw) hP.nd hP.ne (by have := hP.len; omega) o
  have h1 : 1 ≤ sizeLine := sl_big (by decide)
  unfold awB dP
  cases t with
  | none =>
    have ew := hwe none
    rw [dO_none] at ew
    have ea : aF g P none = [wend P none] := by unfold aF; rw [eq, if_neg (by simp)]
    rw [eq, if_neg (by simp), ea]
    simp -implicitDefEqProofs only [aL, List.map_nil, List.append_nil, List.map_cons, sSeq_ap, sIf_ap, toB_ap, eBin_ap, eUn_ap, eV_ap, eK_ap, List.getElem?_cons_succ, List.getElem?_cons_zero, getV_val, bind_ok, dO_none, fNeg_int, ofO_some, fIx_tup, hlast, fEq_non_int, toBK_bl, Bool.false_eq_true, if_false, sNext_ap, seqK_next, tOr_ap, isNon_non, if_true, sMut_ap, tyD_lst, aCons_ap, aNil_ap, eCall_ap, ew, fAppend_lst, hl1, noX_ok, List.set_cons_succ, List.set_cons_zero]
  | some v =>
    have ew := hwe (some v)
    rw [dO_some] at ew
    by_cases hv : v = q
    · subst hv
      have ea : aF g P (some v) = [] := by unfold aF; rw [if_pos eq.symm]
      have eb : aL g P (some v) = [] := by unfold aL; simp [hq]
      rw [if_pos eq.symm, ea, eb]
      simp -implicitDefEqProofs only [List.map_nil, List.append_nil, sSeq_ap, sIf_ap, toB_ap, eBin_ap, eUn_ap, eV_ap, eK_ap, List.getElem?_cons_succ, List.getElem?_cons_zero, getV_val, bind_ok, dO_some, fNeg_int, ofO_some, fIx_tup, hlast, fEq_int, decide_true, toBK_bl, if_true, sCont_ap, seqK_cont]
    · have hn : (some v : Option Nat) ≠ P.getLast? := by rw [eq]; simpa using hv
      have hv' : ¬ (v : Int) = (q : Int) := by omega
      rw [if_neg hn]
      by_cases hg : v = g
      · subst hg
        have ea : aF v P (some v) = [wend P (some v)] := by unfold aF; rw [if_neg hn]; simp
        have eb : aL v P (some v) = [] := by unfold aL; simp
        rw [ea, eb]
        simp -implicitDefEqProofs only [List.map_nil, List.append_nil, List.map_cons, sSeq_ap, sIf_ap, toB_ap, eBin_ap, eUn_ap, eV_ap, eK_ap, List.getElem?_cons_succ, List.getElem?_cons_zero, getV_val, bind_ok, dO_some, fNeg_int, ofO_some, fIx_tup, hlast, fEq_int, hv', decide_false, decide_true, toBK_bl, Bool.false_eq_true, if_false, sNext_ap, seqK_next, tOr_ap, isNon_int, if_true, sMut_ap, tyD_lst, aCons_ap, aNil_ap, eCall_ap, ew, fAppend_lst, hl1, noX_ok, List.set_cons_succ, List.set_cons_zero]
      · have hg' : ¬ (v : Int) = (g : Int) := by omega
        by_cases hp : v ∈ P
        · have ea : aF g P (some v) = [wend P (some v)] := by unfold aF; rw [if_neg hn]; simp [hp]
          have eb : aL g P (some v) = [] := by unfold aL; simp [hp]
          rw [ea, eb]
          simp -implicitDefEqProofs only [List.map_nil, List.append_nil, List.map_cons, sSeq_ap, sIf_ap, toB_ap, eBin_ap, eUn_ap, eV_ap, eK_ap, List.getElem?_cons_succ, List.getElem?_cons_zero, getV_val, bind_ok, dO_some, fNeg_int, ofO_some, fIx_tup, hlast, fEq_int, hv', hg', fIn_dNsT, hp, decide_false, decide_true, toBK_bl, Bool.false_eq_true, if_false, sNext_ap, seqK_next, tOr_ap, isNon_int, if_true, sMut_ap, tyD_lst, aCons_ap, aNil_ap, eCall_ap, ew, fAppend_lst, hl1, noX_ok, List.set_cons_succ, List.set_cons_zero]
        · have ea : aF g P (some v) = [] := by unfold aF; rw [if_neg hn]; simp [hp, hg]
          have eb : aL g P (some v) = [P ++ [v]] := by unfold aL; simp [hp, hg]
          have hle : (dNs P).length + [D.int (v : Int)].length ≤ 100000 := by rw [dNs_len]; have := hP.len; simp; omega
          have ead := fAdd_tup (dNs P) [.int (v : Int)] hle
          have edp : dNs (P ++ [v]) = dNs P ++ [.int (v : Int)] := dNs_append P [v]
          rw [ea, eb]
          simp -implicitDefEqProofs only [edp, List.map_nil, List.append_nil, List.map_cons, sSeq_ap, sIf_ap, toB_ap, eBin_ap, eUn_ap, eV_ap, eK_ap, List.getElem?_cons_succ, List.getElem?_cons_zero, getV_val, bind_ok, dO_some, fNeg_int, ofO_some, fIx_tup, hlast, fEq_int, hv', hg', fIn_dNsT, hp, decide_false, decide_true, toBK_bl, Bool.false_eq_true, if_false, sNext_ap, seqK_next, tOr_ap, isNon_int, sMut_ap, tyD_lst, if_true, aCons_ap, aNil_ap, eTup_ap, List.length_cons, List.length_nil, Nat.zero_add, h1, ead, fAppend_lst, hl2, noX_ok, List.set_cons_succ, List.set_cons_zero]
theorem aF_len (g : Nat) (P : List Nat) (t : Option Nat) : (aF g P t).length ≤ 1 := by
  unfold aF; split
  · simp
  · cases t with
    | none => simp
    | some v => dsimp only; split <;> simp
theorem aL_len (g : Nat) (P : List Nat) (t : Option Nat) : (aL g P t).length ≤ 1 := by
  unfold aL
  cases t with
  | none => simp
  | some v => dsimp only; split <;> simp
theorem flatMap_len {α β : Type} {f : α → List β} (h : ∀ a, (f a).length ≤ 1) : ∀ xs : List α, (xs.flatMap f).length ≤ xs.length
  | [] => by simp
  | x :: xs => by
    have h1 := h x
    have h2 := flatMap_len h xs
    rw [List.flatMap_cons, List.length_append, List.length_cons]; omega
theorem aw_loop {m g : Nat} {P : List Nat} {rw : Rw} (hP : Path m g P) (hm : m ≤ 6) : ∀ (ts : List (Option Nat)) (f : List Dc) (L : List (List Nat)) (x5 : Sl), f.length + ts.length ≤ 10000 → L.length + ts.length ≤ 10000 →
    ∃ x5', sLoop (gN 5) awB (ts.map dO) [.val (.int (m : Int)), .val (.int (g : Int)), .own (.lst (f.map dDic)), .own (.lst (L.map dP)), .val (dP P), x5] rw = .ok (.next, [.val (.int (m : Int)), .val (.int (g : Int)), .own (.lst ((f ++ ts.flatMap (aF g P)).map dDic)), .own (.lst ((L ++ ts.flatMap (aL g P)).map dP)), .val (dP P), x5'], rw)
  | [], f, L, x5, _, _ => ⟨x5, by simp [sLoop]⟩
  | t :: ts, f, L, x5, hf, hL => by
    rw [List.length_cons] at hf hL
    have l1 := aF_len g P t
    have l2 := aL_len g P t
    obtain ⟨x5', e⟩ := aw_loop (rw := rw) hP hm ts (f ++ aF g P t) (L ++ aL g P t) (.val (dO t)) (by rw [List.length_append]; omega) (by rw [List.length_append]; omega)
    refine ⟨x5', ?_⟩
    rw [List.map_cons, sLoop]
    simp only [gN_ap, List.set_cons_succ, List.set_cons_zero]
    rw [awB_ok hP hm _ _ (by rw [List.length_map]; omega) (by rw [List.length_map]; omega) t]
    rw [List.map_append, List.map_append] at e
    rw [List.flatMap_cons, List.flatMap_cons, ← List.append_assoc, ← List.append_assoc]
    by_cases h : t = P.getLast?
    · rw [if_pos h]; simp only [bind_ok]; rw [e]
    · rw [if_neg h]; simp only [bind_ok]; rw [e]
theorem opts_len (m : Nat) : (opts m).length = m + 1 := by simp [opts]
theorem opts_mem {m : Nat} {t : Option Nat} : t ∈ opts m ↔ ∀ v, t = some v → v < m := by
  unfold opts
  rw [List.mem_cons]
  constructor
  · rintro (h | h) v e
    · rw [h] at e; cases e
    · obtain ⟨i, hi, e2⟩ := List.mem_map.mp h
      have := List.mem_range'_1.mp hi
      rw [e] at e2; cases e2
      omega
  · intro h
    cases t with
    | none => exact .inl rfl
    | some v => exact .inr (List.mem_map.mpr ⟨v, List.mem_range'_1.mpr (by have := h v rfl; omega), rfl⟩)
theorem opts_map (m : Nat) : (opts m).map dO = .non :: rangeD 0 m := by
  unfold opts
  rw [List.map_cons, dO_none, List.map_map]
  congr 1
  have := rangeD_dNs 0 m
  rw [show ((0 : Nat) : Int) = 0 from rfl] at this
  rw [this]; rfl
theorem Path.more {m g : Nat} {P Q : List Nat} (hP : Path m g P) (h : Q ∈ (opts m).flatMap (aL g P)) : Path m g Q := by
  obtain ⟨t, ht, hq⟩ := List.mem_flatMap.mp h
  have := opts_mem.mp ht
  cases t with
  | none => simp [aL] at hq
  | some v =>
    unfold aL at hq
    dsimp only at hq
    split at hq
    · simp at hq
    · rename_i hn
      rw [List.mem_singleton.mp hq]
      exact hP.snoc (this v rfl) (fun e => hn (.inl e)) fun e => hn (.inr e)
theorem fit_dP (n : Nat) (L : List (List Nat)) : fit (n + 2) (.lst (L.map dP)) = true := by
  show (L.map dP).all (fit (n + 1)) = true
  rw [List.all_eq_true]
  intro d hd
  obtain ⟨P, _, rfl⟩ := List.mem_map.mp hd
  exact fit_dNs n P
def awW : EM Bool := (tBor 3 (toB (eBin fNe (eV 3) (eLst aNil))))
def awT : SM := (sSeq (sPop0 3 (gN 4)) (sFor (aItems (eBin fAdd (eLst (aCons (eK .non) aNil)) (eLRg1 (eV 0)))) (gN 5) awB))
theorem aw_while {m g : Nat} {rw : Rw} (hm : m ≤ 6) : ∀ (n : Nat) (f : List Dc) (L : List (List Nat)) (r : List Dc) (x4 x5 : Sl), aRun m g n f L = some r → (∀ Q ∈ L, Path m g Q) → f.length + 7 * n ≤ 10000 → L.length + 7 * n ≤ 10000 →
    ∃ x4' x5', sWhile awW awT n [.val (.int (m : Int)), .val (.int (g : Int)), .own (.lst (f.map dDic)), .own (.lst (L.map dP)), x4, x5] rw = .ok (.next, [.val (.int (m : Int)), .val (.int (g : Int)), .own (.lst (r.map dDic)), .own (.lst []), x4', x5'], rw)
  | 0, f, L, r, x4, x5, h, _, _, _ => by cases h
  | n + 1, f, [], r, x4, x5, h, _, _, _ => by
    cases h
    have hz : (0 : Nat) ≤ sizeLine := Nat.zero_le _
    have e0 : fNe (.lst []) (.lst []) = some (.bl false) := by simp
    refine ⟨x4, x5, ?_⟩
    rw [sWhile_succ]
    unfold awW
    simp -implicitDefEqProofs only [List.map_nil, tBor_ap, List.getElem?_cons_succ, List.getElem?_cons_zero, List.set_cons_succ, List.set_cons_zero, toB_ap, eBin_ap, eV_ap, getV_val, bind_ok, eLst_ap, aNil_ap, List.length_nil, hz, if_true, ofO_some, e0, toBK_bl, noX_ok, Bool.false_eq_true, if_false]
  | n + 1, f, P :: L, r, x4, x5, h, hQ, hf, hL => by
    rw [List.length_cons] at hL
    have hP := hQ P List.mem_cons_self
    have k1 := flatMap_len (aF_len g P) (opts m)
    have k2 := flatMap_len (aL_len g P) (opts m)
    rw [opts_len] at k1 k2
    obtain ⟨x5', e1⟩ := aw_loop (rw := rw) hP hm (opts m) f L x5 (by rw [opts_len]; omega) (by rw [opts_len]; omega)
    obtain ⟨x4'', x5'', e2⟩ := aw_while (rw := rw) hm n (f ++ (opts m).flatMap (aF g P)) (L ++ (opts m).flatMap (aL g P)) r (.val (dP P)) x5' h (fun Q hq => by
      rcases List.mem_append.mp hq with hq | hq
      · exact hQ Q (List.mem_cons_of_mem _ hq)
      · exact hP.more hq) (by rw [List.length_append]; omega) (by rw [List.length_append]; omega)
    have hz : (0 : Nat) ≤ sizeLine := Nat.zero_le _
    have h1 : 1 ≤ sizeLine := sl_big (by decide)
    have en : fNe (.lst (dP P :: L.map dP)) (.lst []) = some (.bl true) := fNe_cn _ _ (fit_dP 6 (P :: L))
    have ea : fAdd (.lst [.non]) (.lst (rangeD 0 m)) = some (.lst ((opts m).map dO)) := by
      rw [fAdd_lst _ _ (by rw [rangeD_len]; simp; omega), opts_map]; rfl
    have hr : (-1000000 : Int) ≤ (m : Int) ∧ (m : Int) ≤ 1000000 := by omega
    refine ⟨x4'', x5'', ?_⟩
    rw [sWhile_succ]
    unfold awW awT at *
    simp -implicitDefEqProofs only [List.map_cons, tBor_ap, List.getElem?_cons_succ, List.getElem?_cons_zero, List.set_cons_succ, List.set_cons_zero, toB_ap, eBin_ap, eV_ap, getV_val, bind_ok, eLst_ap, aNil_ap, List.length_nil, hz, if_true, ofO_some, en, toBK_bl, noX_ok, sSeq_ap, sPop0_ap, gN_ap, seqK_next, sFor_ap, aItems_ap, aCons_ap, eK_ap, List.length_cons, Nat.zero_add, h1, eLRg1_ap, hr, and_self, Int.toNat_natCast, ea, itemsOf_lst, e1, e2]
theorem all_ways_of {m g : Nat} {rw : Rw} {r : List Dc} (hm : 1 ≤ m ∧ m ≤ 6) (hg : g ≠ 0) (h : aRun m g 100 [] [[0]] = some r) : d_all_ways [.int (m : Int), .int (g : Int)] rw = .ok (.lst (r.map dDic), rw) := by
  have hp : Path m g [0] := ⟨rfl, by simp, fun p hp => by rw [List.mem_singleton.mp hp]; exact ⟨by omega, Ne.symm hg⟩⟩
  obtain ⟨x4, x5, e⟩ := aw_while (rw := rw) hm.2 100 [] [[0]] r .no .no h (fun Q hq => by rw [List.mem_singleton.mp hq]; exact hp) (by simp) (by simp)
  unfold d_all_ways
  rw [dDef2]
  have eb : b_all_ways = (sSeq (sSetO 2 (eLst aNil)) (sSeq (sSetO 3 (eLst (aCons (eTup (aCons (eK (.int 0)) aNil)) aNil))) (sSeq (sWhile awW awT 100) (sRetV 2)))) := rfl
  have hz : (0 : Nat) ≤ sizeLine := Nat.zero_le _
  have h1 : 1 ≤ sizeLine := sl_big (by decide)
  have e0 : (dP [0]) = .tup [.int 0] := rfl
  rw [List.map_cons, List.map_nil, List.map_nil, e0] at e
  rw [eb]
  simp -implicitDefEqProofs only [List.replicate, sSeq_ap, sSetO_ap, eLst_ap, aNil_ap, bind_ok, List.length_nil, hz, if_true, ofO_some, List.set_cons_succ, List.set_cons_zero, seqK_next, aCons_ap, eTup_ap, eK_ap, List.length_cons, Nat.zero_add, h1, e, sRetV_ap, List.getElem?_cons_succ, List.getElem?_cons_zero, dFin_ret]
/-- all ways of a walk, as all_ways tells them -/
def aWays (m g : Nat) : List Dc := (aRun m g 100 [] [[0]]).getD []
theorem aWays_some : ∀ m : Fin 7, ∀ g : Fin 6, 2 ≤ m.1 → 1 ≤ g.1 → g.1 < m.1 → (aRun m g 100 [] [[0]]).isSome = true := by decide +kernel
theorem aWays_eq {m g : Nat} (hm : 2 ≤ m ∧ m ≤ 6) (h1 : 1 ≤ g) (h2 : g < m) : aRun m g 100 [] [[0]] = some (aWays m g) := by
  have := aWays_some ⟨m, by omega⟩ ⟨g, by omega⟩ hm.1 h1 h2
  unfold aWays
  cases e : aRun m g 100 [] [[0]] with
  | none => rw [e] at this; cases this
  | some r => rfl
theorem all_ways_ok {m g : Nat} {rw : Rw} (hm : 2 ≤ m ∧ m ≤ 6) (h1 : 1 ≤ g) (h2 : g < m) : d_all_ways [.int (m : Int), .int (g : Int)] rw = .ok (.lst ((aWays m g).map dDic), rw) := all_ways_of ⟨by omega, hm.2⟩ (by omega) (aWays_eq hm h1 h2)
end HC
end
section
/-! Plain lemmas: what the dicts of all_ways tell of whole ways. -/
namespace HC
open PySem PySem.Spec L2 HD
def Sees (w : List (Option Nat)) (g p : Nat) : Prop := ∃ n, posM w g n = some p
/-- δ is just what the walk of w sees -/
def IsWalkOf (w : List (Option Nat)) (g : Nat) (δ : Dc) : Prop := ∀ p o, δ.lookup p = some o ↔ p ≠ g ∧ Sees w g p ∧ w[p]? = some o
def Link (w : List (Option Nat)) (P : List Nat) : Prop := ∀ i a b, P[i]? = some a → P[i + 1]? = some b → w[a]? = some (some b)
def Closed (m g : Nat) (P : List Nat) (t : Option Nat) : Prop := t ≠ P.getLast? ∧ ∀ v, t = some v → v < m ∧ (v = g ∨ v ∈ P)
def IsW (m g : Nat) (δ : Dc) : Prop := ∃ P t, Path m g P ∧ Closed m g P t ∧ δ = wend P t
theorem wend_mem {P : List Nat} {t o : Option Nat} {p : Nat} (h : (p, o) ∈ wend P t) : ∃ i, P[i]? = some p ∧ o = if i + 1 < P.length then P[i + 1]? else t := by
  obtain ⟨i, hi⟩ := List.mem_iff_getElem?.mp h
  have hl : i < P.length := by
    have := (List.getElem?_eq_some_iff.mp hi).1
    rwa [wend_len] at this
  have g0 : P[i]? = some P[i] := List.getElem?_eq_getElem hl
  have := wend_get P t i _ g0
  rw [hi] at this
  injection this with e
  injection e with e1 e2
  exact ⟨i, by rw [g0, e1], e2⟩
theorem mem_wend {P : List Nat} {t : Option Nat} {p : Nat} (h : p ∈ P) : ∃ o, (p, o) ∈ wend P t := by
  obtain ⟨i, hi⟩ := List.mem_iff_getElem?.mp h
  exact ⟨_, List.mem_iff_getElem?.mpr ⟨i, wend_get P t i p hi⟩⟩
theorem lookup_mem' {α : Type} {δ : List (Nat × α)} {p : Nat} {o : α} (h : δ.lookup p = some o) : (p, o) ∈ δ := by
  induction δ with
  | nil => simp at h
  | cons a δ ih =>
    obtain ⟨k, x⟩ := a
    rw [List.lookup_cons] at h
    by_cases e : p = k
    · subst e; simp at h; subst h; simp
    · have : (p == k) = false := by simpa using e
      rw [this] at h
      exact List.mem_cons_of_mem _ (ih h)
theorem lookup_of_mem {α : Type} {δ : List (Nat × α)} (hn : (δ.map (·.1)).Nodup) {p : Nat} {o : α} (h : (p, o) ∈ δ) : δ.lookup p = some o := by
  induction δ with
  | nil => simp at h
  | cons a δ ih =>
    obtain ⟨k, x⟩ := a
    rw [List.map_cons, List.nodup_cons] at hn
    rw [List.lookup_cons]
    rcases List.mem_cons.mp h with e | h
    · cases e; simp
    · have : p ≠ k := fun e => hn.1 (List.mem_map.mpr ⟨_, h, e⟩)
      have : (p == k) = false := by simpa using this
      rw [this]
      exact ih hn.2 h
theorem link_pos {m g : Nat} {P : List Nat} {w : List (Option Nat)} (hP : Path m g P) (hl : Link w P) : ∀ i p, P[i]? = some p → posM w g i = some p
  | 0, p, h => by rw [hP.h0] at h; exact h
  | i + 1, p, h => by
    have hi : i < P.length := by have := (List.getElem?_eq_some_iff.mp h).1; omega
    have g0 : P[i]? = some P[i] := List.getElem?_eq_getElem hi
    have ih := link_pos hP hl i _ g0
    have e := hl i _ _ g0 h
    have hg := (hP.lt P[i] (List.getElem_mem hi)).2
    unfold posM
    rw [ih]
    unfold hopM
    simp [hg, e]
theorem closed_pos {m g : Nat} {P : List Nat} {t : Option Nat} {w : List (Option Nat)} (hP : Path m g P) (hl : Link w P) (hc : Closed m g P t) (hw : ∀ q, P.getLast? = some q → w[q]? = some t) : ∀ n p, posM w g n = some p → p = g ∨ p ∈ P
  | 0, p, h => by
    cases h
    exact .inr (List.mem_iff_getElem?.mpr ⟨0, hP.h0⟩)
  | n + 1, p, h => by
    unfold posM at h
    cases q : posM w g n with
    | none => rw [q] at h; cases h
    | some r =>
      rw [q] at h
      unfold hopM at h
      dsimp only at h
      by_cases hr : r = g
      · rw [if_pos hr] at h; cases h; exact .inl hr
      · rw [if_neg hr] at h
        have hm := (closed_pos hP hl hc hw n r q).resolve_left hr
        obtain ⟨i, hi⟩ := List.mem_iff_getElem?.mp hm
        by_cases hlt : i + 1 < P.length
        · have e := hl i r P[i + 1] hi (List.getElem?_eq_getElem hlt)
          rw [e] at h
          simp at h
          subst h
          exact .inr (List.getElem_mem hlt)
        · have hi' := (List.getElem?_eq_some_iff.mp hi).1
          have el : P.getLast? = some r := by rw [List.getLast?_eq_getElem?, show P.length - 1 = i by omega]; exact hi
          rw [hw r el] at h
          exact (hc.2 p (by simpa using h)).2
theorem walk_of {m g : Nat} {P : List Nat} {t : Option Nat} {w : List (Option Nat)} (hP : Path m g P) (hl : Link w P) (hc : Closed m g P t) (hw : ∀ q, P.getLast? = some q → w[q]? = some t) : IsWalkOf w g (wend P t) := by
  have hn : ((wend P t).map (·.1)).Nodup := by rw [wend_keys]; exact hP.nd
  have ext : ∀ p o, (p, o) ∈ wend P t → w[p]? = some o := by
    intro p o h
    obtain ⟨i, hi, e⟩ := wend_mem h
    have hi' := (List.getElem?_eq_some_iff.mp hi).1
    split at e
    · rename_i hlt
      have g1 : P[i + 1]? = some P[i + 1] := List.getElem?_eq_getElem hlt
      rw [e, g1]
      exact hl i p _ hi g1
    · rename_i hlt
      rw [e]
      exact hw p (by rw [List.getLast?_eq_getElem?, show P.length - 1 = i by omega]; exact hi)
  intro p o
  constructor
  · intro h
    have hm := lookup_mem' h
    obtain ⟨i, hi, _⟩ := wend_mem hm
    have hp : p ∈ P := List.mem_iff_getElem?.mpr ⟨i, hi⟩
    exact ⟨(hP.lt p hp).2, ⟨i, link_pos hP hl i p hi⟩, ext p o hm⟩
  · rintro ⟨h1, ⟨n, h2⟩, h3⟩
    have hp := (closed_pos hP hl hc hw n p h2).resolve_left h1
    obtain ⟨o', ho⟩ := mem_wend (t := t) hp
    have := ext p o' ho
    rw [this] at h3
    cases h3
    exact lookup_of_mem hn ho
/-- a whole way out of a dict and a way for the rest -/
def fillW (m : Nat) (w0 : List (Option Nat)) (δ : Dc) : List (Option Nat) := (List.range' 0 m).map fun i => (δ.lookup i).getD ((w0[i]?).getD none)
theorem fillW_len (m : Nat) (w0 : List (Option Nat)) (δ : Dc) : (fillW m w0 δ).length = m := by simp [fillW]
theorem fillW_get {m i : Nat} {w0 : List (Option Nat)} {δ : Dc} (h : i < m) : (fillW m w0 δ)[i]? = some ((δ.lookup i).getD ((w0[i]?).getD none)) := by
  unfold fillW
  rw [List.getElem?_map, List.getElem?_range' h]
  simp
theorem IsW.lk_lt {m g : Nat} {δ : Dc} (h : IsW m g δ) {p : Nat} {o : Option Nat} (e : δ.lookup p = some o) : p < m ∧ p ≠ g ∧ ∀ v, o = some v → v < m ∧ v ≠ p := by
  obtain ⟨P, t, hP, hc, rfl⟩ := h
  have hm := lookup_mem' e
  obtain ⟨i, hi, eo⟩ := wend_mem hm
  have hp : p ∈ P := List.mem_iff_getElem?.mpr ⟨i, hi⟩
  refine ⟨(hP.lt p hp).1, (hP.lt p hp).2, fun v ev => ?_⟩
  subst ev
  have hi' := (List.getElem?_eq_some_iff.mp hi).1
  split at eo
  · rename_i hlt
    have hv : v ∈ P := List.mem_iff_getElem?.mpr ⟨i + 1, eo.symm⟩
    refine ⟨(hP.lt v hv).1, fun ev => ?_⟩
    subst ev
    rw [List.getElem?_eq_getElem hlt] at eo
    rw [List.getElem?_eq_getElem hi'] at hi
    have := (List.getElem_inj hP.nd).mp ((Option.some.inj hi).trans (Option.some.inj eo))
    omega
  · rename_i hlt
    refine ⟨(hc.2 v eo.symm).1, fun ev => ?_⟩
    subst ev
    refine hc.1 (eo.symm.trans ?_)
    rw [List.getLast?_eq_getElem?, show P.length - 1 = i by omega]; exact hi.symm
theorem IsW.fill {m g : Nat} {δ : Dc} {w0 : List (Option Nat)} (h : IsW m g δ) (hg : g < m) (h0 : WayOk m g w0) : WayOk m g (fillW m w0 δ) ∧ IsWalkOf (fillW m w0 δ) g δ := by
  refine ⟨⟨fillW_len _ _ _, ?_, fun i v e => ?_⟩, ?_⟩
  · rw [fillW_get hg]
    cases q : δ.lookup g with
    | some o => exact absurd rfl (h.lk_lt q).2.1
    | none => rw [h0.at_]; rfl
  · have hi : i < m := by
      have := (List.getElem?_eq_some_iff.mp e).1
      rwa [fillW_len] at this
    rw [fillW_get hi] at e
    cases q : δ.lookup i with
    | some o =>
      rw [q] at e
      exact (h.lk_lt q).2.2 v (by simpa using e)
    | none =>
      rw [q] at e
      refine h0.go i v ?_
      have hi0 : i < w0.length := by rw [h0.len]; exact hi
      rw [List.getElem?_eq_getElem hi0] at e ⊢
      simpa using e
  · obtain ⟨P, t, hP, hc, rfl⟩ := h
    have hn : ((wend P t).map (·.1)).Nodup := by rw [wend_keys]; exact hP.nd
    refine walk_of hP (fun i a b ha hb => ?_) hc fun q hq => ?_
    · have hm := wend_get P t i a ha
      have hi : i + 1 < P.length := (List.getElem?_eq_some_iff.mp hb).1
      rw [if_pos hi, hb] at hm
      have e := lookup_of_mem hn (List.mem_iff_getElem?.mpr ⟨i, hm⟩)
      rw [fillW_get (hP.lt a (List.mem_iff_getElem?.mpr ⟨i, ha⟩)).1, e]; rfl
    · rw [List.getLast?_eq_getElem?] at hq
      have hm := wend_get P t _ q hq
      have hlen : 0 < P.length := List.length_pos_iff.mpr hP.ne
      rw [if_neg (by omega)] at hm
      have e := lookup_of_mem hn (List.mem_iff_getElem?.mpr ⟨_, hm⟩)
      rw [fillW_get (hP.lt q (List.mem_iff_getElem?.mpr ⟨_, hq⟩)).1, e]; rfl
theorem aF_isW {m g : Nat} {P : List Nat} {t : Option Nat} {δ : Dc} (hP : Path m g P) (ht : t ∈ opts m) (h : δ ∈ aF g P t) : IsW m g δ := by
  have ho := opts_mem.mp ht
  unfold aF at h
  split at h
  · simp at h
  · rename_i hn
    cases t with
    | none => rw [List.mem_singleton.mp h]; exact ⟨P, none, hP, ⟨hn, fun v e => by cases e⟩, rfl⟩
    | some v =>
      dsimp only at h
      split at h
      · rename_i hv
        rw [List.mem_singleton.mp h]; exact ⟨P, some v, hP, ⟨hn, fun u e => by cases e; exact ⟨ho _ rfl, hv⟩⟩, rfl⟩
      · simp at h
theorem aRun_isW {m g : Nat} : ∀ (n : Nat) (f : List Dc) (L : List (List Nat)) (r : List Dc), aRun m g n f L = some r → (∀ δ ∈ f, IsW m g δ) → (∀ Q ∈ L, Path m g Q) → ∀ δ ∈ r, IsW m g δ
  | 0, _, _, _, h, _, _ => by cases h
  | n + 1, f, [], r, h, hf, _ => by cases h; exact hf
  | n + 1, f, P :: L, r, h, hf, hL => by
    have hP := hL P List.mem_cons_self
    refine aRun_isW n _ _ r h (fun δ hδ => ?_) fun Q hQ => ?_
    · rcases List.mem_append.mp hδ with hδ | hδ
      · exact hf δ hδ
      · obtain ⟨t, ht, hd⟩ := List.mem_flatMap.mp hδ
        exact aF_isW hP ht hd
    · rcases List.mem_append.mp hQ with hQ | hQ
      · exact hL Q (List.mem_cons_of_mem _ hQ)
      · exact hP.more hQ
theorem path0 {m g : Nat} (hm : 1 ≤ m) (hg : g ≠ 0) : Path m g [0] := ⟨rfl, by simp, fun p hp => by rw [List.mem_singleton.mp hp]; exact ⟨by omega, Ne.symm hg⟩⟩
theorem link_snoc {w : List (Option Nat)} {P : List Nat} {q v : Nat} (hl : Link w P) (hq : P.getLast? = some q) (hw : w[q]? = some (some v)) : Link w (P ++ [v]) := by
  intro i a b ha hb
  have hi : i + 1 < P.length + 1 := by have := (List.getElem?_eq_some_iff.mp hb).1; simpa using this
  rw [List.getElem?_append_left (by omega)] at ha
  by_cases h : i + 1 < P.length
  · rw [List.getElem?_append_left h] at hb
    exact hl i a b ha hb
  · rw [List.getElem?_append_right (by omega), show i + 1 - P.length = 0 by omega] at hb
    simp at hb
    subst hb
    rw [List.getLast?_eq_getElem?, show P.length - 1 = i by omega, ha] at hq
    cases hq
    exact hw
theorem aRun_cov {m g : Nat} {w : List (Option Nat)} (hw : WayOk m g w) : ∀ (n : Nat) (f : List Dc) (L : List (List Nat)) (r : List Dc), aRun m g n f L = some r → (∀ Q ∈ L, Path m g Q) →
    ((∃ δ ∈ f, IsWalkOf w g δ) ∨ ∃ P ∈ L, Link w P) → ∃ δ ∈ r, IsWalkOf w g δ
  | 0, _, _, _, h, _, _ => by cases h
  | n + 1, f, [], r, h, _, hc => by
    cases h
    rcases hc with hc | ⟨P, hP, _⟩
    · exact hc
    · cases hP
  | n + 1, f, P :: L, r, h, hL, hc => by
    have hP := hL P List.mem_cons_self
    refine aRun_cov hw n _ _ r h (fun Q hQ => ?_) ?_
    · rcases List.mem_append.mp hQ with hQ | hQ
      · exact hL Q (List.mem_cons_of_mem _ hQ)
      · exact hP.more hQ
    · rcases hc with ⟨δ, hδ, hi⟩ | ⟨Q, hQ, hk⟩
      · exact .inl ⟨δ, List.mem_append_left _ hδ, hi⟩
      · rcases List.mem_cons.mp hQ with rfl | hQ
        case inr => exact .inr ⟨Q, List.mem_append_left _ hQ, hk⟩
        obtain ⟨_, q, _, hq⟩ := hP.last
        have hqm : q ∈ Q := List.mem_of_getLast? hq
        have hql := (hP.lt q hqm).1
        have hwq := way_get hw hql
        generalize ht : (w[q]?).getD none = t at hwq
        have hto : t ∈ opts m := opts_mem.mpr fun v e => (hw.go q v (by rw [hwq, e])).1
        have hne : t ≠ Q.getLast? := by
          rw [hq]
          intro e
          exact (hw.go q q (by rw [hwq, e])).2 rfl
        have fin : ∀ v, t = some v → v < m := opts_mem.mp hto
        have done : Closed m g Q t → wend Q t ∈ aF g Q t → ((∃ δ ∈ f ++ (opts m).flatMap (aF g Q), IsWalkOf w g δ) ∨ ∃ P ∈ L ++ (opts m).flatMap (aL g Q), Link w P) := fun c hmem => .inl ⟨wend Q t, List.mem_append_right f (List.mem_flatMap.mpr ⟨t, hto, hmem⟩), walk_of hP hk c fun q' hq' => by rw [hq] at hq'; cases hq'; exact hwq⟩
        cases ht' : t with
        | none =>
          subst ht'
          exact done ⟨hne, fun v e => by cases e⟩ (by unfold aF; rw [if_neg hne]; simp)
        | some v =>
          rw [ht'] at hne hwq done hto fin
          by_cases hv : v = g ∨ v ∈ Q
          · exact done ⟨hne, fun u e => by cases e; exact ⟨fin _ rfl, hv⟩⟩ (by unfold aF; rw [if_neg hne]; simp [hv])
          · refine .inr ⟨Q ++ [v], List.mem_append_right _ (List.mem_flatMap.mpr ⟨some v, hto, ?_⟩), link_snoc hk hq hwq⟩
            unfold aL; dsimp only; rw [if_neg hv]; exact List.mem_singleton.mpr rfl
theorem aWays_isW {m g : Nat} (hm : 2 ≤ m ∧ m ≤ 6) (h1 : 1 ≤ g) (h2 : g < m) : ∀ δ ∈ aWays m g, IsW m g δ :=
  aRun_isW 100 [] [[0]] _ (aWays_eq hm h1 h2) (fun δ h => by cases h) fun Q hQ => by rw [List.mem_singleton.mp hQ]; exact path0 (by omega) (by omega)
theorem aWays_cov {m g : Nat} (hm : 2 ≤ m ∧ m ≤ 6) (h1 : 1 ≤ g) (h2 : g < m) {w : List (Option Nat)} (hw : WayOk m g w) : ∃ δ ∈ aWays m g, IsWalkOf w g δ :=
  aRun_cov hw 100 [] [[0]] _ (aWays_eq hm h1 h2) (fun Q hQ => by rw [List.mem_singleton.mp hQ]; exact path0 (by omega) (by omega)) (.inr ⟨[0], List.mem_singleton.mpr rfl, fun i a b ha hb => by simp at hb⟩)
/-- two ways of one walk tell the same posts -/
theorem walk_same {m g : Nat} {w v : List (Option Nat)} {δ : Dc} (hm : 0 < m) (hw : WayOk m g w) (hv : WayOk m g v) (h : IsWalkOf w g δ) (h' : IsWalkOf v g δ) : ∀ n, posM w g n = posM v g n
  | 0 => rfl
  | n + 1 => by
    have ih := walk_same hm hw hv h h' n
    unfold posM
    rw [← ih]
    cases q : posM w g n with
    | none => rfl
    | some p =>
      unfold hopM
      dsimp only
      by_cases hg : p = g
      · rw [if_pos hg, if_pos hg]
      · rw [if_neg hg, if_neg hg]
        have hp := posM_lt hm hw n p q
        have e1 := (h p _).mpr ⟨hg, ⟨n, q⟩, way_get hw hp⟩
        have e2 := (h' p _).mp e1
        rw [e2.2.2]; rfl
theorem tells_dic {m g : Nat} {w : List (Option Nat)} {δ : Dc} (hm : 0 < m) (hw : WayOk m g w) (h : IsWalkOf w g δ) : Tells (dDic δ) w g := fun n p q hg => by
  have hp := posM_lt hm hw n p q
  have e1 := (h p _).mpr ⟨hg, ⟨n, q⟩, way_get hw hp⟩
  show lkD (dKs δ) (δ.map fun p => dO p.2) (p : Int) = _
  rw [lk_dDic, e1]; rfl
def noWay (m : Nat) : List (Option Nat) := List.replicate m none
theorem noWay_ok {m g : Nat} (h : g < m) : WayOk m g (noWay m) := ⟨by simp [noWay], by simp [noWay, h], fun i v e => by
  unfold noWay at e
  rw [List.getElem?_replicate] at e
  split at e <;> simp at e⟩
/-- the whole way of a dict, None elsewhere -/
def fill (m : Nat) (δ : Dc) : List (Option Nat) := fillW m (noWay m) δ
end HC
end
section
/-! Plain lemmas: gives, giving. -/
namespace HC
open PySem PySem.Spec L2 HD
abbrev Due : Type := List (Nat × D)
def dDue (q : Due) : D := .dic (dKs q) (q.map fun p => p.2)
structure DueOk (q : Due) : Prop where
  ne : q ≠ []
  nd : (q.map (·.1)).Nodup
  rg : ∀ p ∈ q, 1 ≤ p.1 ∧ p.1 ≤ 60
  an : ∀ p ∈ q, isAns p.2
  ft : ∀ p ∈ q, fit 1 p.2 = true
theorem lk_due (q : Due) (k : Nat) : lkD (dKs q) (q.map fun p => p.2) (k : Int) = q.lookup k := by
  have := lk_map (fun d : D => d) k q
  rw [this]
  cases q.lookup k <;> rfl
theorem fEq_dNs_nil (xs : List Nat) : fEq (.lst (dNs xs)) (.lst []) = some (.bl (decide (xs = []))) := by
  cases xs with
  | nil => simp [dNs]
  | cons x xs =>
    have := fEq_cn (.int (x : Int)) (dNs xs) (by rw [fit_lst]; exact fit_dNs 7 (x :: xs))
    exact this.trans (by simp)
/-- whether a way gives what is due -/
def givesB (S : List Nat) (w : List (Option Nat)) (g : Nat) (q : Due) : Bool := q.all fun p => eqD (ansM S g (posM w g p.1)) p.2
theorem givesB_iff {S : List Nat} {w : List (Option Nat)} {g : Nat} {q : Due} (h : DueOk q) : givesB S w g q = true ↔ ∀ p ∈ q, ansM S g (posM w g p.1) = p.2 := by
  unfold givesB
  rw [List.all_eq_true]
  constructor
  · intro h1 p hp; exact (eqD_isAns (isAns_of _ _ _) (h.an p hp)).mp (h1 p hp)
  · intro h1 p hp; exact (eqD_isAns (isAns_of _ _ _) (h.an p hp)).mpr (h1 p hp)
theorem dKs_dNs {α : Type} (q : List (Nat × α)) : (dKs q).map D.int = dNs (q.map (·.1)) := by unfold dKs dNs; rw [List.map_map, List.map_map]; rfl
theorem maxK_ok {q : Due} (h : DueOk q) : ∃ n : Nat, fMaxK [dDue q] = some (.int (n : Int)) ∧ n ≤ 60 ∧ ∀ p ∈ q, p.1 ≤ n := by
  cases hq : q with
  | nil => exact absurd hq h.ne
  | cons a r =>
    have e0 : fMaxK [dDue (a :: r)] = some (.int (maxI 0 (dKs (a :: r)))) := rfl
    obtain ⟨m1, m2⟩ := maxI_ok 0 (dKs (a :: r)) (by simp [dKs])
    obtain ⟨p, hp, ep⟩ := List.mem_map.mp m1
    refine ⟨p.1, by rw [e0, ← ep], (h.rg p (hq ▸ hp)).2, fun p' hp' => ?_⟩
    have := m2 (p'.1 : Int) (List.mem_map.mpr ⟨p', hp', rfl⟩)
    rw [← ep] at this
    omega
def giC : EM Bool := (toB (eBin fNe (eBin fIx (eV 4) (eBin fSub (eV 5) (eK (.int 1)))) (eBin fIxD (eV 3) (eV 5))))
theorem gives_ok {wD : D} {S : List Nat} {w : List (Option Nat)} {g : Nat} {q : Due} {rw : Rw} (ht : Tells wD w g) (l0 : S.length ≤ 6) (h : DueOk q) (hl : q.length ≤ 1000) :
    d_gives [.tup (dNs S), wD, .int (g : Int), dDue q] rw = .ok (.bl (givesB S w g q), rw) := by
  obtain ⟨n, e1, hn, hmax⟩ := maxK_ok h
  have e2 := answers_gen (rw := rw) ht l0 n hn
  unfold d_gives
  rw [dDef4]
  have eb : b_gives = (sSeq (sSet 4 (eCall d_answers_of (aCons (eV 0) (aCons (eV 1) (aCons (eV 2) (aCons (eArgs fMaxK (aCons (eV 3) aNil)) aNil)))))) (sRet (eBin fEq (eComp (aKeys (eV 3)) (gN 5) giC (eV 5) [5]) (eLst aNil)))) := rfl
  have ec := compL_nat (tg := gN 5) (c := giC) (e := eV 5) (lw := [.val (.tup (dNs S)), .val wD, .val (.int (g : Int)), .val (dDue q), .val (.lst (ansL S w g n)), .no]) (rw := rw) (fun k => match q.lookup k with | some d => !eqD (ansM S g (posM w g k)) d | none => false) (q.map (·.1)) fun k hk => ⟨[.val (.tup (dNs S)), .val wD, .val (.int (g : Int)), .val (dDue q), .val (.lst (ansL S w g n)), .val (.int (k : Int))], rfl, by
    obtain ⟨p, hp, rfl⟩ := List.mem_map.mp hk
    have hlk : q.lookup p.1 = some p.2 := lookup_of_mem h.nd hp
    have hr := h.rg p hp
    have hm := hmax p hp
    have ha : L2.atI (ansL S w g n) ((p.1 : Int) - 1) = some (ansM S g (posM w g p.1)) := by
      have : ((p.1 : Int) - 1) = ((p.1 - 1 : Nat) : Int) := by omega
      rw [this, atI_nat_eq, ansL_get (by omega), show p.1 - 1 + 1 = p.1 by omega]
    have hd : fIxD (dDue q) (.int (p.1 : Int)) = some p.2 := (lk_due q p.1).trans hlk
    have hne : fNe (ansM S g (posM w g p.1)) p.2 = some (.bl (!eqD (ansM S g (posM w g p.1)) p.2)) := by
      unfold fNe
      rw [if_pos ⟨fit_ansM 7 _ _ _, fit_mono 1 8 _ (by decide) (h.ft p hp)⟩]
    rw [hlk]
    unfold giC
    simp -implicitDefEqProofs only [toB_ap, eBin_ap, eV_ap, eK_ap, List.getElem?_cons_succ, List.getElem?_cons_zero, getV_val, bind_ok, fSub_int, ofO_some, fIx_lst, ha, hd, hne, toBK_bl], by simp -implicitDefEqProofs only [eV_ap, List.getElem?_cons_succ, List.getElem?_cons_zero, getV_val]⟩
  have hwp : wipeD [.val (.tup (dNs S)), .val wD, .val (.int (g : Int)), .val (dDue q), .val (.lst (ansL S w g n)), .no] [5] = [.val (.tup (dNs S)), .val wD, .val (.int (g : Int)), .val (dDue q), .val (.lst (ansL S w g n)), .no] := rfl
  have hk : aKeys (eV 3) [.val (.tup (dNs S)), .val wD, .val (.int (g : Int)), .val (dDue q), .val (.lst (ansL S w g n)), .no] rw = .ok (dNs (q.map (·.1)), rw) := by
    rw [← dKs_dNs]; rfl
  have hl2 : (dNs (q.map (·.1))).length ≤ sizeLine := by rw [dNs_len, List.length_map]; exact sl_big (by omega)
  have hz : (0 : Nat) ≤ sizeLine := Nat.zero_le _
  have hfin : decide (((q.map (·.1)).filter fun k => match q.lookup k with | some d => !eqD (ansM S g (posM w g k)) d | none => false) = []) = givesB S w g q := by
    rw [Bool.eq_iff_iff, decide_eq_true_eq, List.filter_eq_nil_iff]
    unfold givesB
    rw [List.all_eq_true]
    constructor
    · intro h1 p hp
      have := h1 p.1 (List.mem_map.mpr ⟨p, hp, rfl⟩)
      rw [lookup_of_mem h.nd hp] at this
      simpa using this
    · intro h1 k hk
      obtain ⟨p, hp, rfl⟩ := List.mem_map.mp hk
      rw [lookup_of_mem h.nd hp]
      simp [h1 p hp]
  rw [eb]
  simp -implicitDefEqProofs only [List.replicate, sSeq_ap, sSet_ap, eCall_ap, aCons_ap, aNil_ap, eV_ap, eArgs_ap, List.getElem?_cons_succ, List.getElem?_cons_zero, getV_val, bind_ok, e1, ofO_some, e2, List.set_cons_succ, List.set_cons_zero, seqK_next, sRet_ap, eBin_ap, eComp_ap, hk, hl2, if_true, hwp, ec, eLst_ap, List.length_nil, hz, fEq_dNs_nil, hfin, dFin_ret]
/-- the dicts of ways that give what is due -/
def givingL (m : Nat) (S : List Nat) (g : Nat) (q : Due) (ws : List Dc) : List Dc := ws.filter fun δ => givesB S (fill m δ) g q
theorem giving_ok {m g : Nat} {S : List Nat} {q : Due} {ws : List Dc} {rw : Rw} (hm : 0 < m) (hg : g < m) (hw : ∀ δ ∈ ws, IsW m g δ) (l0 : S.length ≤ 6) (h : DueOk q) (hl : q.length ≤ 1000) (hws : ws.length ≤ 10000) :
    d_giving [.lst (ws.map dDic), .tup (dNs S), .int (g : Int), dDue q] rw = .ok (.lst ((givingL m S g q ws).map dDic), rw) := by
  unfold d_giving
  rw [dDef4]
  have key : ∀ ws : List Dc, (∀ δ ∈ ws, IsW m g δ) → ∀ x0 : Sl, compL (gN 4) (toB (eCall d_gives (aCons (eV 1) (aCons (eV 4) (aCons (eV 2) (aCons (eV 3) aNil)))))) (eV 4) [x0, .val (.tup (dNs S)), .val (.int (g : Int)), .val (dDue q), .no] (ws.map dDic) rw = .ok ((givingL m S g q ws).map dDic, rw) := by
    intro ws
    induction ws with
    | nil => intro _ _; rfl
    | cons δ ws ih =>
      intro hw x0
      obtain ⟨f1, f2⟩ := (hw δ List.mem_cons_self).fill hg (noWay_ok hg)
      have eg := gives_ok (rw := rw) (tells_dic hm f1 f2) l0 h hl
      have ih := ih (fun δ hδ => hw δ (List.mem_cons_of_mem _ hδ)) x0
      have eg' : d_gives [.tup (dNs S), dDic δ, .int (g : Int), dDue q] rw = .ok (.bl (givesB S (fill m δ) g q), rw) := eg
      rw [List.map_cons]
      unfold compL
      simp -implicitDefEqProofs only [gN_ap, List.set_cons_succ, List.set_cons_zero, toB_ap, eCall_ap, aCons_ap, aNil_ap, eV_ap, List.getElem?_cons_succ, List.getElem?_cons_zero, getV_val, bind_ok, eg', toBK_bl, noX_ok]
      unfold givingL at ih ⊢
      rw [List.filter_cons]
      cases hb : givesB S (fill m δ) g q with
      | true => simp -implicitDefEqProofs only [if_true, noX_ok, bind_ok, ih, List.map_cons]
      | false => simp -implicitDefEqProofs only [Bool.false_eq_true, if_false, ih]
  have hl1 : (ws.map dDic).length ≤ sizeLine := by rw [List.length_map]; exact sl_big (by omega)
  have hwp : wipeD [.val (.lst (ws.map dDic)), .val (.tup (dNs S)), .val (.int (g : Int)), .val (dDue q), .no] [4] = [.val (.lst (ws.map dDic)), .val (.tup (dNs S)), .val (.int (g : Int)), .val (dDue q), .no] := rfl
  have e := key ws hw (.val (.lst (ws.map dDic)))
  unfold b_giving
  simp -implicitDefEqProofs only [List.replicate, sRet_ap, eComp_ap, aItems_ap, eV_ap, List.getElem?_cons_zero, getV_val, bind_ok, itemsOf_lst, ofO_some, hl1, if_true, hwp, e, dFin_ret]
end HC
end
section
/-! Plain lemmas: seen_in, all_silent. -/
namespace HC
open PySem PySem.Spec L2 HD
def seenI : D → Option Int
  | .tup [_, .int i] => some i
  | _ => none
theorem compL_fm {tg : D → Dl → Option Dl} {c : EM Bool} {e : EM D} {lw : Dl} {rw : Rw} (F : D → Option D) : ∀ ds : List D, (∀ d ∈ ds, ∃ l1, tg d lw = some l1 ∧ ((F d = none ∧ c l1 rw = .ok (false, rw)) ∨ ∃ y, F d = some y ∧ c l1 rw = .ok (true, rw) ∧ e l1 rw = .ok (y, rw))) → compL tg c e lw ds rw = .ok (ds.filterMap F, rw)
  | [], _ => rfl
  | d :: ds, h => by
    obtain ⟨l1, h1, h2⟩ := h d (by simp)
    have ih := compL_fm F ds fun x hx => h x (List.mem_cons_of_mem _ hx)
    unfold compL
    rw [h1]
    rcases h2 with ⟨h2, h3⟩ | ⟨y, h2, h3, h4⟩
    · simp only [h3, noX_ok, bind_ok, Bool.false_eq_true, if_false, ih, List.filterMap_cons, h2]
    · simp only [h3, h4, noX_ok, bind_ok, if_true, ih, List.filterMap_cons, h2]
theorem filterMap_int (ds : List D) : ds.filterMap (fun d => (seenI d).map D.int) = (ds.filterMap seenI).map D.int := by
  induction ds with
  | nil => rfl
  | cons d ds ih =>
    rw [List.filterMap_cons, List.filterMap_cons]
    cases seenI d with
    | none => exact ih
    | some i => simp [ih]
theorem seen_in_ok {ds : List D} {rw : Rw} (h : ∀ d ∈ ds, isAns d ∧ fit 1 d = true) (hl : ds.length ≤ 10000) : d_seen_in [.lst ds] rw = .ok (.lst ((ds.filterMap seenI).map D.int), rw) := by
  unfold d_seen_in
  rw [dDef1]
  have ec := compL_fm (tg := gN 1) (c := toB (eBin fNe (eV 1) (eK (.tup [.str "nothing"])))) (e := eBin fIx (eV 1) (eK (.int 1))) (lw := [.val (.lst ds), .no]) (rw := rw) (fun d => (seenI d).map D.int) ds fun d hd => ⟨[.val (.lst ds), .val d], rfl, by
    obtain ⟨ha, hf⟩ := h d hd
    have hft := fit_mono 1 8 _ (by decide) hf
    have hnt := fit_ansM 7 [] 0 none
    have hne : fNe d nothingD = some (.bl (!eqD d nothingD)) := by
      unfold fNe
      rw [if_pos ⟨hft, hnt⟩]
    rw [nothing_eq] at hne
    rcases ha with rfl | ⟨s, i, rfl⟩
    · refine .inl ⟨rfl, ?_⟩
      have hq : eqD nothingD (.tup [.str "nothing"]) = true := (eqD_isAns (.inl rfl) (.inl rfl)).mpr rfl
      simp -implicitDefEqProofs only [toB_ap, eBin_ap, eV_ap, eK_ap, List.getElem?_cons_succ, List.getElem?_cons_zero, getV_val, bind_ok, hne, hq, ofO_some, toBK_bl, Bool.not_true]
    · refine .inr ⟨.int i, rfl, ?_, ?_⟩
      · have hq : eqD (.tup [.str s, .int i]) (.tup [.str "nothing"]) = false := by simp
        simp -implicitDefEqProofs only [toB_ap, eBin_ap, eV_ap, eK_ap, List.getElem?_cons_succ, List.getElem?_cons_zero, getV_val, bind_ok, hne, hq, ofO_some, toBK_bl, Bool.not_false]
      · have hi : L2.atI [D.str s, D.int i] 1 = some (.int i) := atI_one _ _ _
        simp -implicitDefEqProofs only [eBin_ap, eV_ap, eK_ap, List.getElem?_cons_succ, List.getElem?_cons_zero, getV_val, bind_ok, fIx_tup, hi, ofO_some]⟩
  have hl1 : ds.length ≤ sizeLine := sl_big (by omega)
  have hwp : wipeD [.val (.lst ds), .no] [1] = [.val (.lst ds), .no] := rfl
  rw [filterMap_int] at ec
  unfold b_seen_in
  simp -implicitDefEqProofs only [List.replicate, sRet_ap, eComp_ap, aItems_ap, eV_ap, List.getElem?_cons_zero, getV_val, bind_ok, itemsOf_lst, ofO_some, hl1, if_true, hwp, ec, dFin_ret]
/-- all sets of posts from a on, n of them, none of is -/
def subs (is : List Int) : List Nat → List (List Nat) → List (List Nat)
  | [], L => L
  | p :: ps, L => subs is ps (if (p : Int) ∈ is then L else L ++ L.map (· ++ [p]))
theorem anyF_ints (v : Int) : ∀ is : List Int, ((is.map D.int).any fun y => eqF y (.int v)) = decide (v ∈ is)
  | [] => by simp
  | x :: is => by
    show (eqF (.int x) (.int v) || (is.map D.int).any fun y => eqF y (.int v)) = _
    rw [anyF_ints v is]
    simp only [eqF, List.mem_cons]
    by_cases h : v = x
    · subst h; simp
    · have h2 : ¬ x = v := fun e => h e.symm
      simp [h, h2]
theorem fIn_ints (neg : Bool) (v : Int) (is : List Int) : fIn neg (.int v) (.lst (is.map D.int)) = some (.bl (if neg = true then !decide (v ∈ is) else decide (v ∈ is))) := by
  have hf : (is.map D.int).all flatD = true := by simp [flatD]
  unfold fIn fInF seqOf
  simp only [flatD, hf, and_self, if_true, anyF_ints]
theorem subs_len (is : List Int) : ∀ (ps : List Nat) (L : List (List Nat)), (subs is ps L).length ≤ L.length * 2 ^ ps.length
  | [], L => by simp [subs]
  | p :: ps, L => by
    unfold subs
    have ih := subs_len is ps (if (p : Int) ∈ is then L else L ++ L.map (· ++ [p]))
    refine Nat.le_trans ih ?_
    rw [List.length_cons, Nat.pow_succ]
    have : (if (p : Int) ∈ is then L else L ++ L.map (· ++ [p])).length ≤ L.length * 2 := by
      split
      · omega
      · simp; omega
    calc _ ≤ (L.length * 2) * 2 ^ ps.length := Nat.mul_le_mul_right _ this
      _ = L.length * (2 ^ ps.length * 2) := by rw [Nat.mul_assoc, Nat.mul_comm 2]
def asB : SM := (sIf (toB (eBin (fIn true) (eV 3) (eV 1))) (sSet 2 (eBin fAdd (eV 2) (eComp (aItems (eV 2)) (gN 4) cYes (eBin fAdd (eV 4) (eTup (aCons (eV 3) aNil))) [4]))) sNext)
theorem as_turn {is : List Int} {p : Nat} {L : List (List Nat)} {rw : Rw} (x0 x4 : Sl) (hl : L.length ≤ 10000) (hm : ∀ Q ∈ L, Q.length ≤ 1000) :
    ∃ x4', asB [x0, .val (.lst (is.map D.int)), .val (.lst (L.map dP)), .val (.int (p : Int)), x4] rw = .ok (.next, [x0, .val (.lst (is.map D.int)), .val (.lst ((if (p : Int) ∈ is then L else L ++ L.map (· ++ [p])).map dP)), .val (.int (p : Int)), x4'], rw) := by
  have h1 : 1 ≤ sizeLine := sl_big (by decide)
  by_cases hp : (p : Int) ∈ is
  · refine ⟨x4, ?_⟩
    rw [if_pos hp]
    unfold asB
    simp -implicitDefEqProofs only [sIf_ap, toB_ap, eBin_ap, eV_ap, List.getElem?_cons_succ, List.getElem?_cons_zero, getV_val, bind_ok, fIn_ints, hp, decide_true, if_true, Bool.not_true, ofO_some, toBK_bl, Bool.false_eq_true, if_false, sNext_ap]
  · have ec := compL_mapM (tg := gN 4) (c := cYes) (e := eBin fAdd (eV 4) (eTup (aCons (eV 3) aNil))) (lw := [x0, .val (.lst (is.map D.int)), .val (.lst (L.map dP)), .val (.int (p : Int)), .no]) (rw := rw) dP (fun Q => dP (Q ++ [p])) L fun Q hQ => ⟨[x0, .val (.lst (is.map D.int)), .val (.lst (L.map dP)), .val (.int (p : Int)), .val (dP Q)], rfl, rfl, by
      have hle : (dNs Q).length + [D.int (p : Int)].length ≤ 100000 := by rw [dNs_len]; have := hm Q hQ; simp; omega
      have ea := fAdd_tup (dNs Q) [.int (p : Int)] hle
      have ed : dNs (Q ++ [p]) = dNs Q ++ [.int (p : Int)] := dNs_append Q [p]
      unfold dP
      simp -implicitDefEqProofs only [ed, eBin_ap, eV_ap, List.getElem?_cons_succ, List.getElem?_cons_zero, getV_val, bind_ok, eTup_ap, aCons_ap, aNil_ap, List.length_cons, List.length_nil, Nat.zero_add, h1, if_true, ofO_some, ea]⟩
    have hl1 : (L.map dP).length ≤ sizeLine := by rw [List.length_map]; exact sl_big (by omega)
    have hwp : wipeD [x0, .val (.lst (is.map D.int)), .val (.lst (L.map dP)), .val (.int (p : Int)), x4] [4] = [x0, .val (.lst (is.map D.int)), .val (.lst (L.map dP)), .val (.int (p : Int)), .no] := rfl
    have ea := fAdd_lst (L.map dP) (L.map fun Q => dP (Q ++ [p])) (by rw [List.length_map, List.length_map]; omega)
    refine ⟨x4, ?_⟩
    rw [if_neg hp, List.map_append, List.map_map]
    unfold asB
    simp -implicitDefEqProofs only [sIf_ap, toB_ap, eBin_ap, eV_ap, List.getElem?_cons_succ, List.getElem?_cons_zero, getV_val, bind_ok, fIn_ints, hp, decide_false, if_true, Bool.not_false, ofO_some, toBK_bl, sSet_ap, eComp_ap, aItems_ap, itemsOf_lst, hl1, hwp, ec, ea, List.set_cons_succ, List.set_cons_zero]
    rfl
theorem subs_mlen (is : List Int) (k : Nat) (p : Nat) (L : List (List Nat)) (h : ∀ Q ∈ L, Q.length ≤ k) : ∀ Q ∈ (if (p : Int) ∈ is then L else L ++ L.map (· ++ [p])), Q.length ≤ k + 1 := by
  intro Q hQ
  split at hQ
  · have := h Q hQ; omega
  · rcases List.mem_append.mp hQ with hQ | hQ
    · have := h Q hQ; omega
    · obtain ⟨R, hR, rfl⟩ := List.mem_map.mp hQ
      have := h R hR
      simp; omega
theorem as_loop {is : List Int} {rw : Rw} (x0 : Sl) : ∀ (ps : List Nat) (L : List (List Nat)) (k : Nat) (x3 x4 : Sl), (∀ Q ∈ L, Q.length ≤ k) → k + ps.length ≤ 1000 → L.length * 2 ^ ps.length ≤ 10000 →
    ∃ x3' x4', sLoop (gN 3) asB (dNs ps) [x0, .val (.lst (is.map D.int)), .val (.lst (L.map dP)), x3, x4] rw = .ok (.next, [x0, .val (.lst (is.map D.int)), .val (.lst ((subs is ps L).map dP)), x3', x4'], rw)
  | [], L, k, x3, x4, _, _, _ => ⟨x3, x4, rfl⟩
  | p :: ps, L, k, x3, x4, hk, hk2, hl => by
    rw [List.length_cons] at hk2 hl
    have hpow : 1 ≤ 2 ^ ps.length := Nat.one_le_two_pow
    rw [Nat.pow_succ] at hl
    have hll : L.length ≤ 10000 := Nat.le_trans (Nat.le_mul_of_pos_right _ (by omega)) hl
    obtain ⟨x4', e1⟩ := as_turn (is := is) (p := p) (rw := rw) x0 x4 hll (fun Q hQ => by have := hk Q hQ; omega)
    have hlen : (if (p : Int) ∈ is then L else L ++ L.map (· ++ [p])).length ≤ L.length * 2 := by
      split
      · omega
      · simp; omega
    obtain ⟨x3'', x4'', e2⟩ := as_loop (rw := rw) x0 ps (if (p : Int) ∈ is then L else L ++ L.map (· ++ [p])) (k + 1) (.val (.int (p : Int))) x4' (subs_mlen is k p L hk) (by omega) (by
      refine Nat.le_trans (Nat.mul_le_mul_right _ hlen) ?_
      rw [Nat.mul_assoc, Nat.mul_comm 2]; exact hl)
    refine ⟨x3'', x4'', ?_⟩
    have : dNs (p :: ps) = .int (p : Int) :: dNs ps := rfl
    rw [this, sLoop]
    simp only [gN_ap, List.set_cons_succ, List.set_cons_zero]
    rw [e1]
    simp only [bind_ok]
    rw [e2]
    rfl
def silSort (L : List (List Nat)) : List (List Nat) := L.mergeSort fun a b => PySem.W.dataLe false kf1 (dP a) (dP b)
theorem silSort_perm (L : List (List Nat)) : (silSort L).Perm L := List.mergeSort_perm _ _
theorem silSort_map (L : List (List Nat)) : (silSort L).map dP = (L.map dP).mergeSort (PySem.W.dataLe false kf1) := by
  unfold silSort
  exact List.map_mergeSort fun a _ b _ => rfl
/-- the silent ones that all_silent tells -/
def aSil (m : Nat) (is : List Int) : List (List Nat) := silSort (subs is (List.range' 1 (m - 1)) [[]])
theorem subs_all {is : List Int} {k : Nat} : ∀ (ps : List Nat) (L : List (List Nat)), (∀ Q ∈ L, Q.length ≤ k) → ∀ Q ∈ subs is ps L, Q.length ≤ k + ps.length
  | [], L, h => by simpa [subs] using h
  | p :: ps, L, h => fun Q hQ => by
    have := subs_all ps _ (subs_mlen is k p L h) Q hQ
    rw [List.length_cons]; omega
theorem ok1_dP {Q : List Nat} (h : Q.length ≤ 1000) : ok1 (dP Q) = true := by
  unfold dP ok1
  have := toInts_dNs Q
  dsimp only
  rw [this]
  simpa using h
theorem all_silent_ok {m : Nat} {is : List Int} {rw : Rw} (hm : 1 ≤ m ∧ m ≤ 6) : d_all_silent [.int (m : Int), .lst (is.map D.int)] rw = .ok (.lst ((aSil m is).map dP), rw) := by
  unfold d_all_silent
  rw [dDef2]
  obtain ⟨x3, x4, e⟩ := as_loop (is := is) (rw := rw) (.val (.int (m : Int))) (List.range' 1 (m - 1)) [[]] 0 .no .no (fun Q hQ => by rw [List.mem_singleton.mp hQ]; simp) (by simp; omega) (by
    rw [List.length_range', List.length_singleton, Nat.one_mul]
    exact Nat.le_trans (Nat.pow_le_pow_right (by decide) (show m - 1 ≤ 5 by omega)) (by decide))
  have eb : b_all_silent = (sSeq (sSet 2 (eLst (aCons (eTup aNil) aNil))) (sSeq (sFor (aRng rng2 (aCons (eK (.int 1)) (aCons (eV 0) aNil))) (gN 3) asB) (sRet (eArgs (sortKeyD kf1 ok1) (aCons (eV 2) aNil))))) := rfl
  have hr : rng2 [.int (1 : Int), .int (m : Int)] = some (dNs (List.range' 1 (m - 1))) := by
    exact (rng2_of' (i := 1) (j := (m : Int)) (a := 1) (b := m) rfl rfl (by omega) (by omega)).trans (by rw [rangeD_dNs])
  have h1 : 1 ≤ sizeLine := sl_big (by decide)
  have hz : (0 : Nat) ≤ sizeLine := Nat.zero_le _
  have hs : sortKeyD kf1 ok1 [.lst ((subs is (List.range' 1 (m - 1)) [[]]).map dP)] = some (.lst ((aSil m is).map dP)) := by
    unfold sortKeyD aSil
    dsimp only
    rw [silSort_map, if_pos]
    rw [List.all_eq_true]
    intro d hd
    obtain ⟨Q, hQ, rfl⟩ := List.mem_map.mp hd
    refine ok1_dP ?_
    have := subs_all (k := 0) (List.range' 1 (m - 1)) [[]] (fun Q hQ => by rw [List.mem_singleton.mp hQ]; simp) Q hQ
    rw [List.length_range'] at this
    omega
  have e0 : ([[]] : List (List Nat)).map dP = [.tup []] := rfl
  rw [e0] at e
  rw [eb]
  simp -implicitDefEqProofs only [List.replicate, sSeq_ap, sSet_ap, eLst_ap, aCons_ap, eTup_ap, aNil_ap, bind_ok, List.length_nil, hz, if_true, ofO_some, List.length_cons, Nat.zero_add, h1, List.set_cons_succ, List.set_cons_zero, seqK_next, sFor_ap, aRng_ap, eK_ap, eV_ap, List.getElem?_cons_succ, List.getElem?_cons_zero, getV_val, hr, e, sRet_ap, eArgs_ap, hs, dFin_ret]
/-- what stands in subs -/
theorem subs_mem {is : List Int} : ∀ (ps : List Nat) (L : List (List Nat)) (S : List Nat), S ∈ subs is ps L ↔ ∃ Q ∈ L, ∃ R, R.Sublist ps ∧ (∀ p : Nat, p ∈ R → (p : Int) ∉ is) ∧ S = Q ++ R
  | [], L, S => by
    unfold subs
    constructor
    · intro h; exact ⟨S, h, [], .slnil, fun p hp => by simp at hp, by simp⟩
    · rintro ⟨Q, hQ, R, hR, _, rfl⟩
      rw [List.sublist_nil.mp hR, List.append_nil]; exact hQ
  | p :: ps, L, S => by
    unfold subs
    rw [subs_mem ps]
    constructor
    · rintro ⟨Q, hQ, R, hR, hn, rfl⟩
      split at hQ
      · exact ⟨Q, hQ, R, hR.cons _, hn, rfl⟩
      · rename_i hp
        rcases List.mem_append.mp hQ with hQ | hQ
        · exact ⟨Q, hQ, R, hR.cons _, hn, rfl⟩
        · obtain ⟨T, hT, rfl⟩ := List.mem_map.mp hQ
          refine ⟨T, hT, p :: R, hR.cons_cons _, fun x hx => ?_, by simp⟩
          rcases List.mem_cons.mp hx with rfl | hx
          · exact hp
          · exact hn x hx
    · rintro ⟨Q, hQ, R, hR, hn, rfl⟩
      cases hR with
      | cons _ hR =>
        refine ⟨Q, ?_, R, hR, hn, rfl⟩
        split
        · exact hQ
        · exact List.mem_append_left _ hQ
      | cons_cons _ hR =>
        rename_i R
        have hp : (p : Int) ∉ is := hn p List.mem_cons_self
        refine ⟨Q ++ [p], ?_, R, hR, fun x hx => hn x (List.mem_cons_of_mem _ hx), by simp⟩
        rw [if_neg hp]
        exact List.mem_append_right _ (List.mem_map.mpr ⟨Q, hQ, rfl⟩)
/-- silent ones: rising, posts from 1 on -/
def SilOk (m : Nat) (S : List Nat) : Prop := S.Sublist (List.range' 1 (m - 1))
theorem SilOk.lt {m : Nat} {S : List Nat} (h : SilOk m S) : ∀ p ∈ S, 1 ≤ p ∧ p < m := fun p hp => by
  have := List.mem_range'_1.mp (h.subset hp); omega
theorem SilOk.sort {m : Nat} {S : List Nat} (h : SilOk m S) : S.Pairwise (· < ·) := List.Pairwise.sublist h (List.pairwise_lt_range' (s := 1) (n := m - 1) (step := 1) (by decide))
theorem SilOk.len {m : Nat} {S : List Nat} (h : SilOk m S) (hm : m ≤ 6) : S.length ≤ 6 := by
  have := h.length_le; rw [List.length_range'] at this; omega
theorem aSil_mem {m : Nat} {is : List Int} {S : List Nat} : S ∈ aSil m is ↔ SilOk m S ∧ ∀ p : Nat, p ∈ S → (p : Int) ∉ is := by
  unfold aSil SilOk
  rw [(silSort_perm _).mem_iff, subs_mem]
  constructor
  · rintro ⟨Q, hQ, R, hR, hn, rfl⟩
    rw [List.mem_singleton.mp hQ, List.nil_append]
    exact ⟨hR, hn⟩
  · rintro ⟨h1, h2⟩
    exact ⟨[], by simp, S, h1, h2, by simp⟩
end HC
end
section
/-! Plain lemmas: dues_of, all_worlds. -/
namespace HC
open PySem PySem.Spec L2 HD
/-! ### dict(pairs) -/
theorem pairsD_map {α : Type} (f : α → D) : ∀ δ : List (Nat × α), pairsD (δ.map fun p => .tup [.int (p.1 : Int), f p.2]) = some (δ.map fun p => ((p.1 : Int), f p.2))
  | [] => rfl
  | p :: δ => by
    rw [List.map_cons, pairsD, pairsD_map f δ]
    rfl
theorem mergeD_map {α : Type} (f : α → D) : ∀ (δ ε : List (Nat × α)), ((ε ++ δ).map (·.1)).Nodup → mergeD (dKs ε) (ε.map fun p => f p.2) (δ.map fun p => ((p.1 : Int), f p.2)) = (dKs (ε ++ δ), (ε ++ δ).map fun p => f p.2)
  | [], ε, _ => by simp [mergeD]
  | p :: δ, ε, h => by
    have hn : p.1 ∉ ε.map (·.1) := by
      rw [List.map_append, List.nodup_append] at h
      intro z
      exact h.2.2 p.1 z p.1 (by simp) rfl
    obtain ⟨e1, e2⟩ := put_new f ε p.1 p.2 hn
    rw [List.map_cons, mergeD, e1, e2]
    have := mergeD_map f δ (ε ++ [(p.1, p.2)]) (by simpa using h)
    rw [this]
    simp
theorem fDictP_map {α : Type} (f : α → D) (δ : List (Nat × α)) (h : (δ.map (·.1)).Nodup) : fDictP [.lst (δ.map fun p => .tup [.int (p.1 : Int), f p.2])] = some (.dic (dKs δ) (δ.map fun p => f p.2)) := by
  unfold fDictP
  dsimp only
  rw [pairsD_map]
  have := mergeD_map f δ [] h
  rw [List.nil_append] at this
  have e0 : (dKs ([] : List (Nat × α))) = [] := rfl
  rw [e0, List.map_nil] at this
  simp only [Option.map_some, this]
/-! ### dues_of -/
def dueW (W : Web) (g : Nat) : Due := (List.range' 0 (2 * W.many)).map fun i => (i + 1, told W g (i + 1))
theorem dueW_mem {W : Web} {g : Nat} {p : Nat × D} : p ∈ dueW W g ↔ 1 ≤ p.1 ∧ p.1 ≤ 2 * W.many ∧ p.2 = told W g p.1 := by
  unfold dueW
  rw [List.mem_map]
  constructor
  · rintro ⟨i, hi, rfl⟩
    have := List.mem_range'_1.mp hi
    exact ⟨by omega, by omega, rfl⟩
  · rintro ⟨h1, h2, h3⟩
    refine ⟨p.1 - 1, List.mem_range'_1.mpr (by omega), ?_⟩
    rw [show p.1 - 1 + 1 = p.1 by omega, ← h3]
theorem dueW_ok {W : Web} (h : WebOk W) (g : Nat) : DueOk (dueW W g) := by
  have hlo := h.lo
  have hhi := h.hi
  refine ⟨fun e => ?_, ?_, fun p hp => ?_, fun p hp => ?_, fun p hp => ?_⟩
  · have : (dueW W g).length = 0 := by rw [e]; rfl
    unfold dueW at this
    rw [List.length_map, List.length_range'] at this
    omega
  · have : (dueW W g).map (·.1) = List.range' 1 (2 * W.many) := by
      unfold dueW
      rw [List.map_map]
      have : (List.range' 1 (2 * W.many)) = (List.range' 0 (2 * W.many)).map (1 + ·) := by rw [List.map_add_range']
      rw [this]
      apply List.map_congr_left
      intro a _
      show a + 1 = 1 + a
      omega
    rw [this]
    exact List.nodup_range'
  · obtain ⟨h1, h2, _⟩ := dueW_mem.mp hp
    omega
  · rw [(dueW_mem.mp hp).2.2]; exact isAns_of _ _ _
  · rw [(dueW_mem.mp hp).2.2]; exact fit_ansM 0 _ _ _
theorem dueW_len (W : Web) (g : Nat) : (dueW W g).length = 2 * W.many := by simp [dueW]
abbrev Dues : Type := List (Nat × Due)
def dDues (Q : Dues) : D := .dic (dKs Q) (Q.map fun p => dDue p.2)
theorem lk_dues (Q : Dues) (k : Nat) : lkD (dKs Q) (Q.map fun p => dDue p.2) (k : Int) = (Q.lookup k).map dDue := lk_map dDue k Q
def duesW (W : Web) : Dues := (List.range' 1 (W.many - 1)).map fun g => (g, dueW W g)
theorem duesW_lk {W : Web} {g : Nat} (h1 : 1 ≤ g) (h2 : g < W.many) : (duesW W).lookup g = some (dueW W g) := by
  refine lookup_of_mem ?_ (List.mem_map.mpr ⟨g, List.mem_range'_1.mpr (by omega), rfl⟩)
  unfold duesW
  rw [List.map_map]
  have : (List.range' 1 (W.many - 1)).map ((fun x : Nat × Due => x.1) ∘ fun g => (g, dueW W g)) = List.range' 1 (W.many - 1) := by
    conv => rhs; rw [← List.map_id (List.range' 1 (W.many - 1))]
    rfl
  rw [this]
  exact List.nodup_range'
def doB : SM := (sSeq (sSet 3 (eCall d_answers_of (aCons (eBin fIx (eV 0) (eK (.int 1))) (aCons (eBin fIx (eBin fIx (eV 0) (eK (.int 2))) (eBin fSub (eV 2) (eK (.int 1)))) (aCons (eV 2) (aCons (eCall d_steps_to (aCons (eBin fIx (eV 0) (eK (.int 0))) aNil)) aNil)))))) (sDput 1 (eV 2) (eArgs fDictP (aCons (eComp (aRng rng1 (aCons (eArgs fLen (aCons (eV 3) aNil)) aNil)) (gN 4) cYes (eTup (aCons (eBin fAdd (eV 4) (eK (.int 1))) (aCons (eBin fIx (eV 3) (eV 4)) aNil))) [4]) aNil))))
theorem do_turn {W : Web} {rw : Rw} (h : WebOk W) {g : Nat} (h1 : 1 ≤ g) (h2 : g < W.many) (Q : Dues) (hQ : g ∉ Q.map (·.1)) (hl : Q.length ≤ 1000) (x3 x4 : Sl) :
    ∃ x3' x4', doB [.val (dWeb W), .own (dDues Q), .val (.int (g : Int)), x3, x4] rw = .ok (.next, [.val (dWeb W), .own (dDues (Q ++ [(g, dueW W g)])), .val (.int (g : Int)), x3', x4'], rw) := by
  have hw := wayOf_at h h1 h2
  have hlo := h.lo
  have hhi := h.hi
  have ea := answers_of_ok (rw := rw) (silent := W.silent) (by omega) hw.ok h.silLen (2 * W.many) (by omega)
  have es := steps_to_ok (rw := rw) h.hi
  have i0 := ix0 W
  have i1 := ix1 W
  have i2 := ix2 W
  have ig := hw.ix
  have hal : (ansL W.silent (wayOf W g) g (2 * W.many)).length = 2 * W.many := ansL_len
  generalize hA : ansL W.silent (wayOf W g) g (2 * W.many) = A at ea hal
  have hget : ∀ i, i < 2 * W.many → A[i]? = some (told W g (i + 1)) := fun i hi => by rw [← hA, ansL_get hi]; rfl
  have h2s : 2 ≤ sizeLine := sl_big (by decide)
  have ec := fun DW : D => compL_mapM (tg := gN 4) (c := cYes) (e := eTup (aCons (eBin fAdd (eV 4) (eK (.int 1))) (aCons (eBin fIx (eV 3) (eV 4)) aNil))) (lw := [.val DW, .own (dDues Q), .val (.int (g : Int)), .val (.lst A), .no]) (rw := rw) (fun (n : Nat) => D.int (n : Int)) (fun i => .tup [.int ((i + 1 : Nat) : Int), told W g (i + 1)]) (List.range' 0 (2 * W.many)) fun i hi => ⟨[.val DW, .own (dDues Q), .val (.int (g : Int)), .val (.lst A), .val (.int (i : Int))], rfl, rfl, by
    have hi' := List.mem_range'_1.mp hi
    have eg : L2.atI A (i : Int) = some (told W g (i + 1)) := by rw [atI_nat_eq, hget i (by omega)]
    have ei : (i : Int) + 1 = ((i + 1 : Nat) : Int) := by omega
    simp -implicitDefEqProofs only [eTup_ap, aCons_ap, aNil_ap, eBin_ap, eV_ap, eK_ap, List.getElem?_cons_succ, List.getElem?_cons_zero, getV_val, bind_ok, fAdd_int, ofO_some, fIx_lst, eg, ei, List.length_cons, List.length_nil, Nat.zero_add, Nat.reduceAdd, h2s, if_true]⟩
  have ed : fDictP [.lst ((List.range' 0 (2 * W.many)).map fun i => .tup [.int ((i + 1 : Nat) : Int), told W g (i + 1)])] = some (dDue (dueW W g)) := by
    have := fDictP_map (fun d : D => d) (dueW W g) (dueW_ok h g).nd
    unfold dueW at this ⊢
    rw [List.map_map] at this
    exact this
  obtain ⟨p1, p2⟩ := put_new dDue Q g (dueW W g) hQ
  have hlen : (dKs Q).length < 100000 := by unfold dKs; rw [List.length_map]; omega
  have hr : rng1 [.int ((A.length : Nat) : Int)] = some (dNs (List.range' 0 (2 * W.many))) := by
    rw [rng1_of' (n := 2 * W.many) (by omega) (by omega)]
    have := rangeD_dNs 0 (2 * W.many)
    rw [show ((0 : Nat) : Int) = 0 from rfl] at this
    rw [this]
  have hrl : (dNs (List.range' 0 (2 * W.many))).length ≤ sizeLine := sl_big (by rw [dNs_len, List.length_range']; omega)
  generalize dWeb W = DW at *
  refine ⟨.val (.lst A), x4, ?_⟩
  have hwp : wipeD [.val DW, .own (dDues Q), .val (.int (g : Int)), .val (.lst A), x4] [4] = [.val DW, .own (dDues Q), .val (.int (g : Int)), .val (.lst A), .no] := rfl
  have ecc := ec DW
  unfold doB
  unfold dNs at hr hrl
  simp -implicitDefEqProofs only [sSeq_ap, sSet_ap, eCall_ap, aCons_ap, aNil_ap, eBin_ap, eV_ap, eK_ap, List.getElem?_cons_succ, List.getElem?_cons_zero, getV_val, bind_ok, i0, i1, i2, ofO_some, es, fSub_int, fIx_tup, ig, ea, List.set_cons_succ, List.set_cons_zero, seqK_next]
  unfold dDues at hwp ecc ⊢
  simp -implicitDefEqProofs only [sDput_ap, List.getElem?_cons_succ, List.getElem?_cons_zero, eArgs_ap, aCons_ap, aNil_ap, eComp_ap, aRng_ap, eV_ap, getV_val, bind_ok, fLen_lst, ofO_some, hr, hrl, if_true, hwp, ecc, ed, hlen, List.set_cons_succ, List.set_cons_zero, p1, p2]
theorem dues_of_ok {W : Web} {rw : Rw} (h : WebOk W) : d_dues_of [dWeb W] rw = .ok (dDues (duesW W), rw) := by
  have hlo := h.lo
  have hhi := h.hi
  unfold d_dues_of
  rw [dDef1]
  have eb : b_dues_of = (sSeq (sSetO 1 (eK (.dic [] []))) (sSeq (sFor (aRng rng2 (aCons (eK (.int 1)) (aCons (eBin fIx (eV 0) (eK (.int 0))) aNil))) (gN 2) doB) (sRetV 1))) := rfl
  have hr : rng2 [.int (1 : Int), .int (W.many : Int)] = some (rangeD ((1 : Nat) : Int) (W.many - 1)) := rng2_of' (i := 1) (j := (W.many : Int)) (a := 1) (b := W.many) rfl rfl (by omega) (by omega)
  let P : Nat → Dl → Rw → Prop := fun k l rw' => rw' = rw ∧ ∃ x2 x3 x4 : Sl, l = [.val (dWeb W), .own (dDues ((List.range' 1 k).map fun g => (g, dueW W g))), x2, x3, x4]
  obtain ⟨l', rw', e, ⟨rfl, x2, x3, x4, rfl⟩⟩ := loop_all (tg := gN 2) (body := doB) P (rangeD ((1 : Nat) : Int) (W.many - 1)) 0 [.val (dWeb W), .own (dDues []), .no, .no, .no] rw ⟨rfl, .no, .no, .no, rfl⟩ fun i d l rw' hd hP => by
    obtain ⟨rfl, x2, x3, x4, rfl⟩ := hP
    have hi : i < W.many - 1 := by
      have := (List.getElem?_eq_some_iff.mp hd).1
      rwa [rangeD_len] at this
    rw [rangeD_get hi] at hd
    cases hd
    have ei : ((1 : Nat) : Int) + (i : Int) = ((1 + i : Nat) : Int) := by omega
    rw [ei]
    obtain ⟨x3', x4', et⟩ := do_turn (rw := rw') h (g := 1 + i) (by omega) (by omega) ((List.range' 1 (0 + i)).map fun g => (g, dueW W g)) (fun z => by
      rw [List.map_map] at z
      obtain ⟨a, ha, e⟩ := List.mem_map.mp z
      have := List.mem_range'_1.mp ha
      have e' : a = 1 + i := e
      omega) (by rw [List.length_map, List.length_range']; omega) x3 x4
    refine ⟨_, rfl, _, rw', .inl et, rfl, .val (.int ((1 + i : Nat) : Int)), x3', x4', ?_⟩
    have : (List.range' 1 (0 + i + 1)).map (fun g => (g, dueW W g)) = (List.range' 1 (0 + i)).map (fun g => (g, dueW W g)) ++ [(1 + i, dueW W (1 + i))] := by
      rw [List.range'_concat, List.map_append]
      simp
    rw [this]
  rw [rangeD_len, Nat.zero_add] at e
  have i0 := ix0 W
  have e0 : dDues [] = .dic [] [] := rfl
  rw [e0] at e
  have e1 : ((List.range' 1 (W.many - 1)).map fun g => (g, dueW W g)) = duesW W := rfl
  rw [e1] at e
  generalize dWeb W = DW at *
  rw [eb]
  simp -implicitDefEqProofs only [List.replicate, sSeq_ap, sSetO_ap, eK_ap, bind_ok, List.set_cons_succ, List.set_cons_zero, seqK_next, sFor_ap, aRng_ap, aCons_ap, aNil_ap, eBin_ap, eV_ap, List.getElem?_cons_succ, List.getElem?_cons_zero, getV_val, i0, ofO_some, hr, e, sRetV_ap, dFin_ret]
end HC
end
section
/-! Plain lemmas: all_worlds. -/
namespace HC
open PySem PySem.Spec L2 HD
def dWs (ws : List Dc) : D := .lst (ws.map dDic)
abbrev Wd : Type := List Nat × List (List Dc)
def dWd (x : Wd) : D := .tup [dP x.1, .lst (x.2.map dWs)]
/-- what is seen of a web -/
def seenW (W : Web) : List Int := (List.range' 1 (W.many - 1)).flatMap fun g => ((dueW W g).map (·.2)).filterMap seenI
def someW (W : Web) (S : List Nat) : List (List Dc) := (List.range' 1 (W.many - 1)).map fun g => givingL W.many S g (dueW W g) (aWays W.many g)
def worldB (x : Wd) : Bool := x.2.all fun l => !l.isEmpty
def worldsW (W : Web) : List Wd := ((aSil W.many (seenW W)).map fun S => (S, someW W S)).filter worldB
def awS : SM := (sMut "list" 2 fExtend (aCons (eCall d_seen_in (aCons (eVals (eBin fIxD (eV 1) (eV 3))) aNil)) aNil))
def awE : EM D := (eArgs fDictP (aCons (eComp (aKeys (eV 1)) (gN 3) cYes (eTup (aCons (eV 3) (aCons (eCall d_all_ways (aCons (eBin fIx (eV 0) (eK (.int 0))) (aCons (eV 3) aNil))) aNil))) [3]) aNil))
def awC : EM D := (eComp (aRng rng2 (aCons (eK (.int 1)) (aCons (eBin fIx (eV 0) (eK (.int 0))) aNil))) (gN 3) cYes (eCall d_giving (aCons (eBin fIxD (eV 5) (eV 3)) (aCons (eV 6) (aCons (eV 3) (aCons (eBin fIxD (eV 1) (eV 3)) aNil))))) [3])
def awF : SM := (sSeq (sSet 7 awC) (sIf (toB (eBin fNotInN (eLst aNil) (eV 7))) (sMut "list" 4 fAppend (aCons (eTup (aCons (eV 6) (aCons (eV 7) aNil))) aNil)) sNext))
theorem b_aw : b_all_worlds = (sSeq (sSet 1 (eCall d_dues_of (aCons (eV 0) aNil))) (sSeq (sSetO 2 (eLst aNil)) (sSeq (sFor (aKeys (eV 1)) (gN 3) awS) (sSeq (sSetO 4 (eLst aNil)) (sSeq (sSet 5 awE) (sSeq (sFrz 2) (sSeq (sFor (aItems (eCall d_all_silent (aCons (eBin fIx (eV 0) (eK (.int 0))) (aCons (eV 2) aNil)))) (gN 6) awF) (sRetV 4)))))))) := rfl
theorem fExtend_lst (xs ys : List D) (h : xs.length + ys.length ≤ 100000) : fExtend (.lst xs) [.lst ys] = some (.lst (xs ++ ys)) := by
  unfold fExtend
  exact if_pos (sl_big h)
theorem seen_le (q : Due) : ((q.map (·.2)).filterMap seenI).length ≤ q.length := by
  have := List.length_filterMap_le seenI (q.map (·.2))
  rwa [List.length_map] at this
theorem awS_turn {Q : Dues} {q : Due} {g : Nat} {rw : Rw} (hQ : Q.lookup g = some q) (hq : ∀ p ∈ q, isAns p.2 ∧ fit 1 p.2 = true) (is : List Int) (hl : is.length + q.length ≤ 10000) (x0 x4 x5 x6 x7 : Sl) :
    awS [x0, .val (dDues Q), .own (.lst (is.map D.int)), .val (.int (g : Int)), x4, x5, x6, x7] rw = .ok (.next, [x0, .val (dDues Q), .own (.lst ((is ++ (q.map (·.2)).filterMap seenI).map D.int)), .val (.int (g : Int)), x4, x5, x6, x7], rw) := by
  have e1 : fIxD (dDues Q) (.int (g : Int)) = some (dDue q) := (lk_dues Q g).trans (by rw [hQ]; rfl)
  have es := seen_in_ok (rw := rw) (ds := q.map (·.2)) (fun d hd => by obtain ⟨p, hp, rfl⟩ := List.mem_map.mp hd; exact hq p hp) (by rw [List.length_map]; omega)
  have hle := seen_le q
  have ee := fExtend_lst (is.map D.int) (((q.map (·.2)).filterMap seenI).map D.int) (by rw [List.length_map, List.length_map]; omega)
  rw [List.map_append]
  unfold awS
  unfold dDue at e1
  simp -implicitDefEqProofs only [sMut_ap, List.getElem?_cons_succ, List.getElem?_cons_zero, tyD_lst, if_true, aCons_ap, aNil_ap, eCall_ap, eVals_ap, eBin_ap, eV_ap, getV_val, bind_ok, e1, ofO_some, es, noX_ok, ee, List.set_cons_succ, List.set_cons_zero]
theorem awS_loop {Q : Dues} {F : Nat → Due} {rw : Rw} (n : Nat) (x0 x4 x5 x6 x7 : Sl) : ∀ (gs : List Nat) (is : List Int) (x3 : Sl), (∀ g ∈ gs, Q.lookup g = some (F g) ∧ (F g).length ≤ n ∧ ∀ p ∈ F g, isAns p.2 ∧ fit 1 p.2 = true) → is.length + gs.length * n ≤ 10000 →
    ∃ x3', sLoop (gN 3) awS (dNs gs) [x0, .val (dDues Q), .own (.lst (is.map D.int)), x3, x4, x5, x6, x7] rw = .ok (.next, [x0, .val (dDues Q), .own (.lst ((is ++ gs.flatMap fun g => ((F g).map (·.2)).filterMap seenI).map D.int)), x3', x4, x5, x6, x7], rw)
  | [], is, x3, _, _ => ⟨x3, by simp [sLoop, dNs]⟩
  | g :: gs, is, x3, h, hl => by
    rw [List.length_cons, Nat.succ_mul] at hl
    obtain ⟨h1, h2, h3⟩ := h g List.mem_cons_self
    have e1 := awS_turn (rw := rw) h1 h3 is (by omega) x0 x4 x5 x6 x7
    have hle := seen_le (F g)
    obtain ⟨x3', e2⟩ := awS_loop (Q := Q) (F := F) (rw := rw) n x0 x4 x5 x6 x7 gs (is ++ ((F g).map (·.2)).filterMap seenI) (.val (.int (g : Int))) (fun g' hg' => h g' (List.mem_cons_of_mem _ hg')) (by rw [List.length_append]; omega)
    refine ⟨x3', ?_⟩
    have : dNs (g :: gs) = .int (g : Int) :: dNs gs := rfl
    rw [this, sLoop]
    simp only [gN_ap, List.set_cons_succ, List.set_cons_zero]
    rw [e1]
    simp only [bind_ok]
    rw [e2, List.flatMap_cons, ← List.append_assoc]
def everyL (m : Nat) : List (Nat × List Dc) := (List.range' 1 (m - 1)).map fun g => (g, aWays m g)
def dEvery (m : Nat) : D := .dic (dKs (everyL m)) ((everyL m).map fun p => dWs p.2)
theorem map_fst_id {α : Type} (F : Nat → α) (gs : List Nat) : (gs.map fun g => (g, F g)).map (·.1) = gs := by
  rw [List.map_map]
  conv => rhs; rw [← List.map_id gs]
  rfl
theorem every_lk {m g : Nat} (h1 : 1 ≤ g) (h2 : g < m) : fIxD (dEvery m) (.int (g : Int)) = some (dWs (aWays m g)) := by
  have e : (everyL m).lookup g = some (aWays m g) := lookup_of_mem (by unfold everyL; rw [map_fst_id]; exact List.nodup_range') (List.mem_map.mpr ⟨g, List.mem_range'_1.mpr (by omega), rfl⟩)
  exact (lk_map dWs g (everyL m)).trans (by rw [e]; rfl)
theorem dNs_keys (W : Web) : aKeys (eK (dDues (duesW W))) [] none = .ok (dNs (List.range' 1 (W.many - 1)), none) := by
  show R.ok ((dKs (duesW W)).map D.int, none) = _
  rw [dKs_dNs]
  unfold duesW
  rw [map_fst_id]
theorem keys_ap {W : Web} {l : Dl} {rw : Rw} (h : l[1]? = some (.val (dDues (duesW W)))) : aKeys (eV 1) l rw = .ok (dNs (List.range' 1 (W.many - 1)), rw) := by
  rw [aKeys_ap, eV_ap, h]
  show R.ok ((dKs (duesW W)).map D.int, rw) = _
  rw [dKs_dNs]
  unfold duesW
  rw [map_fst_id]
theorem awE_ok {W : Web} {rw : Rw} (h : WebOk W) (x2 x3 x4 x5 x6 x7 : Sl) : awE [.val (dWeb W), .val (dDues (duesW W)), x2, x3, x4, x5, x6, x7] rw = .ok (dEvery W.many, rw) := by
  have hlo := h.lo
  have hhi := h.hi
  have i0 := ix0 W
  have h2s : 2 ≤ sizeLine := sl_big (by decide)
  have ec := fun (DW : D) (i0 : fIx DW (.int 0) = some (.int (W.many : Int))) => compL_mapM (tg := gN 3) (c := cYes) (e := eTup (aCons (eV 3) (aCons (eCall d_all_ways (aCons (eBin fIx (eV 0) (eK (.int 0))) (aCons (eV 3) aNil))) aNil))) (lw := [.val DW, .val (dDues (duesW W)), x2, .no, x4, x5, x6, x7]) (rw := rw) (fun (n : Nat) => D.int (n : Int)) (fun g => .tup [.int (g : Int), dWs (aWays W.many g)]) (List.range' 1 (W.many - 1)) fun g hg => ⟨[.val DW, .val (dDues (duesW W)), x2, .val (.int (g : Int)), x4, x5, x6, x7], rfl, rfl, by
    have hg' := List.mem_range'_1.mp hg
    have ea := all_ways_ok (rw := rw) ⟨h.lo, h.hi⟩ (show 1 ≤ g by omega) (show g < W.many by omega)
    have ea' : d_all_ways [.int (W.many : Int), .int (g : Int)] rw = .ok (dWs (aWays W.many g), rw) := ea
    simp -implicitDefEqProofs only [eTup_ap, aCons_ap, aNil_ap, eCall_ap, eBin_ap, eV_ap, eK_ap, List.getElem?_cons_succ, List.getElem?_cons_zero, getV_val, bind_ok, i0, ofO_some, ea', List.length_cons, List.length_nil, Nat.zero_add, Nat.reduceAdd, h2s, if_true]⟩
  have hk : aKeys (eV 1) [.val (dWeb W), .val (dDues (duesW W)), x2, x3, x4, x5, x6, x7] rw = .ok (dNs (List.range' 1 (W.many - 1)), rw) := keys_ap rfl
  have hrl : (dNs (List.range' 1 (W.many - 1))).length ≤ sizeLine := sl_big (by rw [dNs_len, List.length_range']; omega)
  have ed : fDictP [.lst ((List.range' 1 (W.many - 1)).map fun (g : Nat) => .tup [.int (g : Int), dWs (aWays W.many g)])] = some (dEvery W.many) := by
    have := fDictP_map dWs (everyL W.many) (by unfold everyL; rw [map_fst_id]; exact List.nodup_range')
    unfold dEvery
    rw [← this]
    unfold everyL
    rw [List.map_map]
    rfl
  have ecc := ec (dWeb W) i0
  generalize dWeb W = DW at *
  have hwp : wipeD [.val DW, .val (dDues (duesW W)), x2, x3, x4, x5, x6, x7] [3] = [.val DW, .val (dDues (duesW W)), x2, .no, x4, x5, x6, x7] := rfl
  unfold awE
  unfold dNs at hk hrl
  simp -implicitDefEqProofs only [eArgs_ap, aCons_ap, aNil_ap, eComp_ap, hk, bind_ok, hrl, if_true, hwp, ecc, ed, ofO_some]
theorem aWays_few : ∀ m : Fin 7, ∀ g : Fin 6, 2 ≤ m.1 → 1 ≤ g.1 → g.1 < m.1 → (aWays m.1 g.1).length ≤ 1000 := by decide +kernel
theorem aWays_len {m g : Nat} (hm : 2 ≤ m ∧ m ≤ 6) (h1 : 1 ≤ g) (h2 : g < m) : (aWays m g).length ≤ 1000 := aWays_few ⟨m, by omega⟩ ⟨g, by omega⟩ hm.1 h1 h2
theorem awC_ok {W : Web} {S : List Nat} {rw : Rw} (h : WebOk W) (hS : S.length ≤ 6) (x2 x3 x4 x7 : Sl) : awC [.val (dWeb W), .val (dDues (duesW W)), x2, x3, x4, .val (dEvery W.many), .val (dP S), x7] rw = .ok (.lst ((someW W S).map dWs), rw) := by
  have hlo := h.lo
  have hhi := h.hi
  have i0 := ix0 W
  have ec := fun (DW : D) => compL_mapM (tg := gN 3) (c := cYes) (e := (eCall d_giving (aCons (eBin fIxD (eV 5) (eV 3)) (aCons (eV 6) (aCons (eV 3) (aCons (eBin fIxD (eV 1) (eV 3)) aNil)))))) (lw := [.val DW, .val (dDues (duesW W)), x2, .no, x4, .val (dEvery W.many), .val (dP S), x7]) (rw := rw) (fun (n : Nat) => D.int (n : Int)) (fun g => dWs (givingL W.many S g (dueW W g) (aWays W.many g))) (List.range' 1 (W.many - 1)) fun g hg => ⟨[.val DW, .val (dDues (duesW W)), x2, .val (.int (g : Int)), x4, .val (dEvery W.many), .val (dP S), x7], rfl, rfl, by
    have hg' := List.mem_range'_1.mp hg
    have e1 := every_lk (m := W.many) (g := g) (by omega) (by omega)
    have e2 : fIxD (dDues (duesW W)) (.int (g : Int)) = some (dDue (dueW W g)) := (lk_dues _ g).trans (by rw [duesW_lk (by omega) (by omega)]; rfl)
    have eg := giving_ok (rw := rw) (m := W.many) (g := g) (S := S) (q := dueW W g) (ws := aWays W.many g) (by omega) (by omega) (aWays_isW ⟨h.lo, h.hi⟩ (by omega) (by omega)) hS (dueW_ok h g) (by rw [dueW_len]; omega) (Nat.le_trans (aWays_len ⟨h.lo, h.hi⟩ (by omega) (by omega)) (by decide))
    have eg' : d_giving [dWs (aWays W.many g), dP S, .int (g : Int), dDue (dueW W g)] rw = .ok (dWs (givingL W.many S g (dueW W g) (aWays W.many g)), rw) := eg
    simp -implicitDefEqProofs only [eCall_ap, aCons_ap, aNil_ap, eBin_ap, eV_ap, List.getElem?_cons_succ, List.getElem?_cons_zero, getV_val, bind_ok, e1, e2, ofO_some, eg']⟩
  have hr : rng2 [.int (1 : Int), .int (W.many : Int)] = some (dNs (List.range' 1 (W.many - 1))) := (rng2_of' (i := 1) (j := (W.many : Int)) (a := 1) (b := W.many) rfl rfl (by omega) (by omega)).trans (by rw [rangeD_dNs])
  have hrl : (dNs (List.range' 1 (W.many - 1))).length ≤ sizeLine := sl_big (by rw [dNs_len, List.length_range']; omega)
  have ecc := ec (dWeb W)
  generalize dWeb W = DW at *
  have hwp : wipeD [.val DW, .val (dDues (duesW W)), x2, x3, x4, .val (dEvery W.many), .val (dP S), x7] [3] = [.val DW, .val (dDues (duesW W)), x2, .no, x4, .val (dEvery W.many), .val (dP S), x7] := rfl
  have ef : (someW W S).map dWs = (List.range' 1 (W.many - 1)).map fun g => dWs (givingL W.many S g (dueW W g) (aWays W.many g)) := by unfold someW; rw [List.map_map]; rfl
  rw [ef]
  unfold awC
  unfold dNs at hr hrl
  simp -implicitDefEqProofs only [eComp_ap, aRng_ap, aCons_ap, aNil_ap, eK_ap, eBin_ap, eV_ap, List.getElem?_cons_zero, getV_val, bind_ok, i0, ofO_some, hr, hrl, if_true, hwp, ecc]
theorem notIn_dWs (L : List (List Dc)) : fNotInN (.lst []) (.lst (L.map dWs)) = some (.bl (L.all fun l => !l.isEmpty)) := by
  have h1 : (L.map dWs).all isLstD = true := by
    rw [List.all_eq_true]; intro d hd; obtain ⟨l, _, rfl⟩ := List.mem_map.mp hd; rfl
  have h2 : (!(L.map dWs).any isNilD) = L.all fun l => !l.isEmpty := by
    rw [List.any_map, List.not_any_eq_all_not]
    congr 1
    funext l
    cases l <;> rfl
  unfold fNotInN
  dsimp only
  rw [if_pos h1, h2]
theorem awF_turn {W : Web} {S : List Nat} {rw : Rw} (h : WebOk W) (hS : S.length ≤ 6) (L : List Wd) (hL : L.length ≤ 10000) (x2 x3 x7 : Sl) :
    ∃ x7', awF [.val (dWeb W), .val (dDues (duesW W)), x2, x3, .own (.lst (L.map dWd)), .val (dEvery W.many), .val (dP S), x7] rw = .ok (.next, [.val (dWeb W), .val (dDues (duesW W)), x2, x3, .own (.lst ((L ++ [(S, someW W S)].filter worldB).map dWd)), .val (dEvery W.many), .val (dP S), x7'], rw) := by
  have e1 := awC_ok (rw := rw) h hS x2 x3 (.own (.lst (L.map dWd))) x7
  have e2 := notIn_dWs (someW W S)
  have hz : (0 : Nat) ≤ sizeLine := Nat.zero_le _
  have h2s : 2 ≤ sizeLine := sl_big (by decide)
  have hl1 : (L.map dWd).length < sizeLine := by rw [List.length_map]; exact sl_lt (by omega)
  refine ⟨.val (.lst ((someW W S).map dWs)), ?_⟩
  have hb : worldB (S, someW W S) = (someW W S).all fun l => !l.isEmpty := rfl
  rw [← hb] at e2
  have ed : dWd (S, someW W S) = .tup [dP S, .lst ((someW W S).map dWs)] := rfl
  generalize dWeb W = DW at *
  unfold awF
  rw [List.filter_cons]
  cases q : worldB (S, someW W S) with
  | true =>
    rw [q] at e2
    simp -implicitDefEqProofs only [sSeq_ap, sSet_ap, e1, bind_ok, List.set_cons_succ, List.set_cons_zero, seqK_next, sIf_ap, toB_ap, eBin_ap, eLst_ap, aNil_ap, List.length_nil, hz, if_true, ofO_some, eV_ap, List.getElem?_cons_succ, List.getElem?_cons_zero, getV_val, e2, toBK_bl, sMut_ap, tyD_lst, aCons_ap, eTup_ap, List.length_cons, Nat.zero_add, Nat.reduceAdd, h2s, fAppend_lst, hl1, noX_ok, List.filter_nil, List.map_append, List.map_cons, List.map_nil, ed]
  | false =>
    rw [q] at e2
    simp -implicitDefEqProofs only [sSeq_ap, sSet_ap, e1, bind_ok, List.set_cons_succ, List.set_cons_zero, seqK_next, sIf_ap, toB_ap, eBin_ap, eLst_ap, aNil_ap, List.length_nil, hz, if_true, ofO_some, eV_ap, List.getElem?_cons_succ, List.getElem?_cons_zero, getV_val, e2, toBK_bl, Bool.false_eq_true, if_false, sNext_ap, List.filter_nil, List.append_nil]
theorem awF_loop {W : Web} {rw : Rw} (h : WebOk W) (x2 x3 : Sl) : ∀ (Ss : List (List Nat)) (L : List Wd) (x6 x7 : Sl), (∀ S ∈ Ss, S.length ≤ 6) → L.length + Ss.length ≤ 10000 →
    ∃ x6' x7', sLoop (gN 6) awF (Ss.map dP) [.val (dWeb W), .val (dDues (duesW W)), x2, x3, .own (.lst (L.map dWd)), .val (dEvery W.many), x6, x7] rw = .ok (.next, [.val (dWeb W), .val (dDues (duesW W)), x2, x3, .own (.lst ((L ++ (Ss.map fun S => (S, someW W S)).filter worldB).map dWd)), .val (dEvery W.many), x6', x7'], rw)
  | [], L, x6, x7, _, _ => ⟨x6, x7, by simp [sLoop]⟩
  | S :: Ss, L, x6, x7, hS, hl => by
    rw [List.length_cons] at hl
    obtain ⟨x7', e1⟩ := awF_turn (rw := rw) h (hS S List.mem_cons_self) L (by omega) x2 x3 x7
    have hle : ([(S, someW W S)].filter worldB).length ≤ 1 := Nat.le_trans (List.length_filter_le _ _) (by simp)
    obtain ⟨x6'', x7'', e2⟩ := awF_loop (rw := rw) h x2 x3 Ss (L ++ [(S, someW W S)].filter worldB) (.val (dP S)) x7' (fun T hT => hS T (List.mem_cons_of_mem _ hT)) (by rw [List.length_append]; omega)
    refine ⟨x6'', x7'', ?_⟩
    rw [List.map_cons, sLoop]
    simp only [gN_ap, List.set_cons_succ, List.set_cons_zero]
    rw [e1]
    simp only [bind_ok]
    rw [e2]
    have : L ++ ((S :: Ss).map fun S => (S, someW W S)).filter worldB = L ++ [(S, someW W S)].filter worldB ++ (Ss.map fun S => (S, someW W S)).filter worldB := by
      rw [List.append_assoc, ← List.filter_append]; rfl
    rw [this]
theorem aSil_len {m : Nat} {is : List Int} (hm : 1 ≤ m ∧ m ≤ 6) : (aSil m is).length ≤ 32 := by
  unfold aSil
  rw [(silSort_perm _).length_eq]
  refine Nat.le_trans (subs_len _ _ _) ?_
  rw [List.length_singleton, Nat.one_mul, List.length_range']
  exact Nat.le_trans (Nat.pow_le_pow_right (by decide) (show m - 1 ≤ 5 by omega)) (by decide)
theorem all_worlds_ok {W : Web} {rw : Rw} (h : WebOk W) : d_all_worlds [dWeb W] rw = .ok (.lst ((worldsW W).map dWd), rw) := by
  have hlo := h.lo
  have hhi := h.hi
  unfold d_all_worlds
  rw [dDef1, b_aw]
  have e1 := dues_of_ok (rw := rw) h
  obtain ⟨x3a, e2⟩ := awS_loop (Q := duesW W) (F := dueW W) (rw := rw) 12 (.val (dWeb W)) .no .no .no .no (List.range' 1 (W.many - 1)) [] .no (fun g hg => by
    have hg' := List.mem_range'_1.mp hg
    have hd := dueW_ok h g
    exact ⟨duesW_lk (by omega) (by omega), by rw [dueW_len]; omega, fun p hp => ⟨hd.an p hp, hd.ft p hp⟩⟩) (by rw [List.length_range', List.length_nil]; omega)
  have es : ([] : List Int) ++ (List.range' 1 (W.many - 1)).flatMap (fun g => ((dueW W g).map (·.2)).filterMap seenI) = seenW W := rfl
  rw [es] at e2
  have e3 := awE_ok (rw := rw) h (.own (.lst ((seenW W).map D.int))) x3a (.own (.lst [])) .no .no .no
  have e4 := all_silent_ok (m := W.many) (is := seenW W) (rw := rw) ⟨by omega, hhi⟩
  obtain ⟨x6, x7, e5⟩ := awF_loop (rw := rw) h (.val (.lst ((seenW W).map D.int))) x3a (aSil W.many (seenW W)) [] .no .no (fun S hS => (aSil_mem.mp hS).1.len hhi) (by have := aSil_len (m := W.many) (is := seenW W) ⟨by omega, hhi⟩; rw [List.length_nil]; omega)
  have ew : ([] : List Wd) ++ ((aSil W.many (seenW W)).map fun S => (S, someW W S)).filter worldB = worldsW W := rfl
  rw [ew] at e5
  have i0 := ix0 W
  have hz : (0 : Nat) ≤ sizeLine := Nat.zero_le _
  have hk : ∀ (DW : Sl) (x2 x3 x4 x5 x6 x7 : Sl), aKeys (eV 1) [DW, .val (dDues (duesW W)), x2, x3, x4, x5, x6, x7] rw = .ok (dNs (List.range' 1 (W.many - 1)), rw) := fun DW x2 x3 x4 x5 x6 x7 => keys_ap rfl
  rw [List.map_nil] at e2 e5
  generalize dWeb W = DW at *
  generalize dDues (duesW W) = DD at *
  simp -implicitDefEqProofs only [List.replicate, sSeq_ap, sSet_ap, eCall_ap, aCons_ap, aNil_ap, eV_ap, List.getElem?_cons_succ, List.getElem?_cons_zero, getV_val, bind_ok, e1, List.set_cons_succ, List.set_cons_zero, seqK_next, sSetO_ap, eLst_ap, List.length_nil, hz, if_true, ofO_some, sFor_ap, hk, e2, e3, sFrz_ap, aItems_ap, eBin_ap, eK_ap, i0, e4, itemsOf_lst, e5, sRetV_ap, dFin_ret]
end HC
end
section
/-! Plain lemmas: with_way, other_next, twin_in, twin_of, twin, known. -/
namespace HC
open PySem PySem.Spec L2 HD
theorem fit_dO8 (o : Option Nat) : fit 8 (dO o) = true := fit_dO 8 o
theorem eqD_dOO (a b : Option Nat) : eqD (dO a) (dO b) = decide (a = b) := by
  cases a with
  | none => cases b with
    | none => simp
    | some y => simp
  | some x => cases b with
    | none => simp
    | some y =>
      rw [dO_some, dO_some, eqD_int]
      by_cases h : x = y
      · subst h; simp
      · have : ¬ (x : Int) = (y : Int) := by omega
        simp [h, this]
theorem fNe_dOO (a b : Option Nat) : fNe (dO a) (dO b) = some (.bl (!decide (a = b))) := by
  unfold fNe
  rw [if_pos ⟨fit_dO8 a, fit_dO8 b⟩, eqD_dOO]
theorem fEq_dOO (a b : Option Nat) : fEq (dO a) (dO b) = some (.bl (decide (a = b))) := by
  unfold fEq
  rw [if_pos ⟨fit_dO8 a, fit_dO8 b⟩, eqD_dOO]
theorem notNon_dO (o : Option Nat) : notNonD (dO o) = some (.bl o.isSome) := by cases o <;> rfl
theorem isNon_dO (o : Option Nat) : isNonD (dO o) = some (.bl o.isNone) := by cases o <;> rfl
theorem getD_dO (a b : Option (Option Nat)) (c : Option Nat) : (a.map dO).getD (dO c) = dO (a.getD c) := by cases a <;> rfl
/-! ### with_way -/
def wwC : EM D := (eComp (aRng rng1 (aCons (eArgs fLen (aCons (eV 1) aNil)) aNil)) (gN 5) cYes (eGet2 (eV 0) (eV 5) (eBin fIx (eV 1) (eV 5))) [5])
theorem wwC_ok {m : Nat} {w0 : List (Option Nat)} {δ : Dc} {rw : Rw} (hw : w0.length = m) (hm : m ≤ 100) (x2 x3 x4 x5 : Sl) : wwC [.val (dDic δ), .val (dWay w0), x2, x3, x4, x5] rw = .ok (.lst ((fillW m w0 δ).map dO), rw) := by
  have ec := compL_mapM (tg := gN 5) (c := cYes) (e := eGet2 (eV 0) (eV 5) (eBin fIx (eV 1) (eV 5))) (lw := [.val (dDic δ), .val (dWay w0), x2, x3, x4, .no]) (rw := rw) (fun (n : Nat) => D.int (n : Int)) (fun i => dO ((δ.lookup i).getD ((w0[i]?).getD none))) (List.range' 0 m) fun i hi => ⟨[.val (dDic δ), .val (dWay w0), x2, x3, x4, .val (.int (i : Int))], rfl, rfl, by
    have hi' := List.mem_range'_1.mp hi
    have h0 : w0[i]? = some ((w0[i]?).getD none) := by rw [List.getElem?_eq_getElem (by omega)]; rfl
    have eg : L2.atI (w0.map dO) (i : Int) = some (dO ((w0[i]?).getD none)) := by
      rw [atI_nat_eq, List.getElem?_map]
      conv => lhs; rw [h0]
      rfl
    have el := lk_dDic δ i
    have gd := getD_dO (δ.lookup i) none ((w0[i]?).getD none)
    unfold dDic dWay
    simp -implicitDefEqProofs only [eGet2_ap, eBin_ap, eV_ap, List.getElem?_cons_succ, List.getElem?_cons_zero, getV_val, bind_ok, fIx_tup, eg, ofO_some, el, gd]⟩
  have hr : rng1 [.int ((w0.map dO).length : Nat)] = some (dNs (List.range' 0 m)) := by
    rw [List.length_map, hw, rng1_of' (n := m) rfl hm]
    have := rangeD_dNs 0 m
    rw [show ((0 : Nat) : Int) = 0 from rfl] at this
    rw [this]
  have hrl : (dNs (List.range' 0 m)).length ≤ sizeLine := sl_big (by rw [dNs_len, List.length_range']; omega)
  have hwp : wipeD [.val (dDic δ), .val (dWay w0), x2, x3, x4, x5] [5] = [.val (dDic δ), .val (dWay w0), x2, x3, x4, .no] := rfl
  have ef : (fillW m w0 δ).map dO = (List.range' 0 m).map fun i => dO ((δ.lookup i).getD ((w0[i]?).getD none)) := by unfold fillW; rw [List.map_map]; rfl
  rw [ef]
  unfold wwC
  unfold dWay dNs at *
  simp -implicitDefEqProofs only [eComp_ap, aRng_ap, aCons_ap, aNil_ap, eArgs_ap, eV_ap, List.getElem?_cons_succ, List.getElem?_cons_zero, getV_val, bind_ok, fLen_tup, ofO_some, hr, hrl, if_true, hwp, ec]
theorem b_ww : b_with_way = (sSeq (sSetO 4 wwC) (sSeq (sIf (toB (eUn notNonD (eV 2))) (sStore 4 (eV 2) (eV 3)) sNext) (sRet (eTupO 4)))) := rfl
theorem with_way_non {m : Nat} {w0 : List (Option Nat)} {δ : Dc} {x : D} {rw : Rw} (hw : w0.length = m) (hm : m ≤ 100) : d_with_way [dDic δ, dWay w0, .non, x] rw = .ok (dWay (fillW m w0 δ), rw) := by
  unfold d_with_way
  rw [dDef4, b_ww]
  have e := wwC_ok (δ := δ) (rw := rw) hw hm (.val .non) (.val x) .no .no
  have ed : dWay (fillW m w0 δ) = .tup ((fillW m w0 δ).map dO) := rfl
  rw [ed]
  simp -implicitDefEqProofs only [List.replicate, sSeq_ap, sSetO_ap, e, bind_ok, List.set_cons_succ, List.set_cons_zero, seqK_next, sIf_ap, toB_ap, eUn_ap, eV_ap, List.getElem?_cons_succ, List.getElem?_cons_zero, getV_val, notNon_non, ofO_some, toBK_bl, Bool.false_eq_true, if_false, sNext_ap, sRet_ap, eTupO_ap, dFin_ret]
theorem with_way_post {m p : Nat} {w0 : List (Option Nat)} {δ : Dc} {o : Option Nat} {rw : Rw} (hw : w0.length = m) (hm : m ≤ 100) (hp : p < m) : d_with_way [dDic δ, dWay w0, .int (p : Int), dO o] rw = .ok (dWay ((fillW m w0 δ).set p o), rw) := by
  unfold d_with_way
  rw [dDef4, b_ww]
  have e := wwC_ok (δ := δ) (rw := rw) hw hm (.val (.int (p : Int))) (.val (dO o)) .no .no
  have ed : dWay ((fillW m w0 δ).set p o) = .tup (((fillW m w0 δ).map dO).set p (dO o)) := by unfold dWay; rw [List.map_set]
  have ei : L2.ixN ((fillW m w0 δ).map dO).length (p : Int) = some p := by
    rw [List.length_map, fillW_len]
    unfold L2.ixN
    rw [if_pos (by omega), if_pos (by omega), Int.toNat_natCast]
  rw [ed]
  simp -implicitDefEqProofs only [List.replicate, sSeq_ap, sSetO_ap, e, bind_ok, List.set_cons_succ, List.set_cons_zero, seqK_next, sIf_ap, toB_ap, eUn_ap, eV_ap, List.getElem?_cons_succ, List.getElem?_cons_zero, getV_val, notNon_int, ofO_some, toBK_bl, if_true, sStore_ap, ei, sRet_ap, eTupO_ap, dFin_ret]
/-! ### other_next -/
def otherN (m p : Nat) (o : Option Nat) : Option Nat := if o.isSome = true then none else (oth m p)[0]?
theorem other_next_ok {m p : Nat} {o : Option Nat} {rw : Rw} (hm : 2 ≤ m ∧ m ≤ 100) (hp : p < m) : d_other_next [.int (m : Int), .int (p : Int), dO o] rw = .ok (dO (otherN m p o), rw) := by
  unfold d_other_next
  rw [dDef3]
  cases o with
  | some v =>
    have e : otherN m p (some v) = none := rfl
    rw [e]
    simp -implicitDefEqProofs only [b_other_next, List.replicate, sRet_ap, eIf_ap, toB_ap, eUn_ap, eV_ap, List.getElem?_cons_succ, List.getElem?_cons_zero, getV_val, bind_ok, dO_some, notNon_int, ofO_some, toBK_bl, if_true, eK_ap, dFin_ret, dO_none]
  | none =>
    have hl := oth_len m p hp
    have g0 : (oth m p)[0]? = some (oth m p)[0] := List.getElem?_eq_getElem (by omega)
    have e : otherN m p none = some (oth m p)[0] := g0
    have ec := compL_nat (tg := gN 3) (c := toB (eBin fNe (eV 3) (eV 1))) (e := eV 3) (lw := [.val (.int (m : Int)), .val (.int (p : Int)), .val .non, .no]) (rw := rw) (fun j => !decide (j = p)) (List.range' 0 m) fun j _ => ⟨[.val (.int (m : Int)), .val (.int (p : Int)), .val .non, .val (.int (j : Int))], rfl, by
      have hd : decide ((j : Int) = (p : Int)) = decide (j = p) := by simp; omega
      simp -implicitDefEqProofs only [toB_ap, eBin_ap, eV_ap, List.getElem?_cons_succ, List.getElem?_cons_zero, getV_val, bind_ok, fNe_int, hd, ofO_some, toBK_bl], by simp -implicitDefEqProofs only [eV_ap, List.getElem?_cons_succ, List.getElem?_cons_zero, getV_val]⟩
    have eo : (List.range' 0 m).filter (fun j => !decide (j = p)) = oth m p := rfl
    rw [eo] at ec
    have hr : rng1 [.int (m : Int)] = some (dNs (List.range' 0 m)) := by
      rw [rng1_of' (n := m) rfl hm.2]
      have := rangeD_dNs 0 m
      rw [show ((0 : Nat) : Int) = 0 from rfl] at this
      rw [this]
    have hrl : (dNs (List.range' 0 m)).length ≤ sizeLine := sl_big (by rw [dNs_len, List.length_range']; omega)
    have hwp : wipeD [.val (.int (m : Int)), .val (.int (p : Int)), .val .non, .no] [3] = [.val (.int (m : Int)), .val (.int (p : Int)), .val .non, .no] := rfl
    have ea : L2.atI (dNs (oth m p)) 0 = some (.int (((oth m p)[0] : Nat) : Int)) := dNs_getI (oth m p) 0 _ g0
    rw [e]
    simp -implicitDefEqProofs only [b_other_next, List.replicate, sRet_ap, eIf_ap, toB_ap, eUn_ap, eV_ap, List.getElem?_cons_succ, List.getElem?_cons_zero, getV_val, bind_ok, dO_none, notNon_non, ofO_some, toBK_bl, Bool.false_eq_true, if_false, eBin_ap, eComp_ap, aRng_ap, aCons_ap, aNil_ap, hr, hrl, if_true, hwp, ec, eK_ap, fIx_lst, ea, dFin_ret, dO_some]
/-! ### twin_in -/
def thereW (W : Web) (p g : Nat) : Option Nat := ((wayOf W g)[p]?).getD none
def isTw (W : Web) (p g : Nat) (δ : Dc) : Bool := !decide (δ.lookup p = some (thereW W p g))
def twWays (W : Web) (x : Wd) : List (List (Option Nat)) := (List.range' 0 (W.many - 1)).map fun k => fillW W.many (wayOf W (k + 1)) (((x.2[k]?).getD []).head?.getD [])
def twWay (W : Web) (p g : Nat) (δ : Dc) : List (Option Nat) := (fillW W.many (wayOf W g) δ).set p ((δ.lookup p).getD (otherN W.many p (thereW W p g)))
def twWeb (W : Web) (x : Wd) (p g : Nat) (δ : Dc) : Web := ⟨W.many, x.1, (twWays W x).set (g - 1) (twWay W p g δ)⟩
def twinF (W : Web) (p g : Nat) (x : Wd) : Option Web := (((x.2[g - 1]?).getD []).find? (isTw W p g)).map (twWeb W x p g)
structure WdOk (W : Web) (x : Wd) : Prop where
  len : x.2.length = W.many - 1
  ne : ∀ (k : Nat) (l : List Dc), x.2[k]? = some l → l ≠ []
  sil : x.1.length ≤ 6
  few : ∀ (k : Nat) (l : List Dc), x.2[k]? = some l → l.length ≤ 1000
def tiC : EM D := (eComp (aRng rng1 (aCons (eArgs fLen (aCons (eV 5) aNil)) aNil)) (gN 10) cYes (eCall d_with_way (aCons (eBin fIx (eBin fIx (eV 5) (eV 10)) (eK (.int 0))) (aCons (eBin fIx (eBin fIx (eV 0) (eK (.int 2))) (eV 10)) (aCons (eK .non) (aCons (eK .non) aNil))))) [10])
def tiB : SM := (sIf (tOr' (toB (eBin fNe (eGet2 (eV 7) (eV 2) (eV 6)) (eV 6))) (toB (eBin (fDin true) (eV 2) (eV 7)))) (sSeq (sSetO 8 tiC) (sSeq (sSet 9 (eGet2 (eV 7) (eV 2) (eCall d_other_next (aCons (eBin fIx (eV 0) (eK (.int 0))) (aCons (eV 2) (aCons (eV 6) aNil)))))) (sSeq (sStore 8 (eBin fSub (eV 3) (eK (.int 1))) (eCall d_with_way (aCons (eV 7) (aCons (eBin fIx (eBin fIx (eV 0) (eK (.int 2))) (eBin fSub (eV 3) (eK (.int 1)))) (aCons (eV 2) (aCons (eV 9) aNil)))))) (sRet (eTup (aCons (eBin fIx (eV 0) (eK (.int 0))) (aCons (eV 4) (aCons (eTupO 8) aNil)))))))) sNext)
theorem b_ti : b_twin_in = (sSeq (sAsg (eV 1) (gT 2 (gsCons (gN 4) (gsCons (gN 5) gsNil)))) (sSeq (sSet 6 (eBin fIx (eBin fIx (eBin fIx (eV 0) (eK (.int 2))) (eBin fSub (eV 3) (eK (.int 1)))) (eV 2))) (sSeq (sFor (aItems (eBin fIx (eV 5) (eBin fSub (eV 3) (eK (.int 1))))) (gN 7) tiB) (sRet (eK .non))))) := rfl
theorem wayAt_k {W : Web} (h : WebOk W) {k : Nat} (hk : k < W.many - 1) : WayAt W (k + 1) (wayOf W (k + 1)) := wayOf_at h (by omega) (by omega)
theorem tiC_ok {W : Web} {x : Wd} {rw : Rw} (h : WebOk W) (hx : WdOk W x) (x1 x2 x3 x4 x6 x7 x8 x9 x10 : Sl) :
    tiC [.val (dWeb W), x1, x2, x3, x4, .val (.lst (x.2.map dWs)), x6, x7, x8, x9, x10] rw = .ok (.lst ((twWays W x).map dWay), rw) := by
  have hhi := h.hi
  have i2 := ix2 W
  have ec := fun (DW : D) (i2 : fIx DW (.int 2) = some (.tup (W.ways.map dWay))) => compL_mapM (tg := gN 10) (c := cYes) (e := (eCall d_with_way (aCons (eBin fIx (eBin fIx (eV 5) (eV 10)) (eK (.int 0))) (aCons (eBin fIx (eBin fIx (eV 0) (eK (.int 2))) (eV 10)) (aCons (eK .non) (aCons (eK .non) aNil)))))) (lw := [.val DW, x1, x2, x3, x4, .val (.lst (x.2.map dWs)), x6, x7, x8, x9, .no]) (rw := rw) (fun (n : Nat) => D.int (n : Int)) (fun k => dWay (fillW W.many (wayOf W (k + 1)) (((x.2[k]?).getD []).head?.getD []))) (List.range' 0 (W.many - 1)) fun k hk => ⟨[.val DW, x1, x2, x3, x4, .val (.lst (x.2.map dWs)), x6, x7, x8, x9, .val (.int (k : Int))], rfl, rfl, by
    have hk' := List.mem_range'_1.mp hk
    have hkl : k < x.2.length := by have := hx.len; omega
    have gk : x.2[k]? = some x.2[k] := List.getElem?_eq_getElem hkl
    have hne := hx.ne k _ gk
    have e1 : L2.atI (x.2.map dWs) (k : Int) = some (dWs x.2[k]) := by rw [atI_nat_eq, List.getElem?_map, gk]; rfl
    obtain ⟨δ, r, er⟩ : ∃ δ r, x.2[k] = δ :: r := by
      cases q : x.2[k] with
      | nil => exact absurd q hne
      | cons a r => exact ⟨a, r, rfl⟩
    have e2 : fIx (dWs x.2[k]) (.int 0) = some (dDic δ) := by rw [er]; exact atI_zero _ _
    have wa := wayAt_k h (k := k) (by omega)
    have e3 : L2.atI (W.ways.map dWay) (k : Int) = some (dWay (wayOf W (k + 1))) := by
      have := wa.at_
      rw [show k + 1 - 1 = k by omega] at this
      rw [atI_nat_eq, List.getElem?_map, this]; rfl
    have e4 := with_way_non (δ := δ) (x := .non) (rw := rw) wa.ok.len (by omega)
    have e5 : ((x.2[k]?).getD []).head?.getD [] = δ := by rw [gk, Option.getD_some, er]; rfl
    simp -implicitDefEqProofs only [eCall_ap, aCons_ap, aNil_ap, eBin_ap, eV_ap, eK_ap, List.getElem?_cons_succ, List.getElem?_cons_zero, getV_val, bind_ok, fIx_lst, e1, ofO_some, e2, i2, fIx_tup, e3, e4, e5]⟩
  have hr : rng1 [.int ((x.2.map dWs).length : Nat)] = some (dNs (List.range' 0 (W.many - 1))) := by
    rw [List.length_map, hx.len, rng1_of' (n := W.many - 1) rfl (by omega)]
    have := rangeD_dNs 0 (W.many - 1)
    rw [show ((0 : Nat) : Int) = 0 from rfl] at this
    rw [this]
  have hrl : (dNs (List.range' 0 (W.many - 1))).length ≤ sizeLine := sl_big (by rw [dNs_len, List.length_range']; omega)
  have ecc := ec (dWeb W) i2
  have ef : (twWays W x).map dWay = (List.range' 0 (W.many - 1)).map fun k => dWay (fillW W.many (wayOf W (k + 1)) (((x.2[k]?).getD []).head?.getD [])) := by unfold twWays; rw [List.map_map]; rfl
  rw [ef]
  generalize dWeb W = DW at *
  have hwp : wipeD [.val DW, x1, x2, x3, x4, .val (.lst (x.2.map dWs)), x6, x7, x8, x9, x10] [10] = [.val DW, x1, x2, x3, x4, .val (.lst (x.2.map dWs)), x6, x7, x8, x9, .no] := rfl
  unfold tiC
  unfold dNs at hr hrl
  simp -implicitDefEqProofs only [eComp_ap, aRng_ap, aCons_ap, aNil_ap, eArgs_ap, eV_ap, List.getElem?_cons_succ, List.getElem?_cons_zero, getV_val, bind_ok, fLen_lst, ofO_some, hr, hrl, if_true, hwp, ecc]
theorem twWays_len (W : Web) (x : Wd) : (twWays W x).length = W.many - 1 := by simp [twWays]
theorem tiB_ok {W : Web} {x : Wd} {p g : Nat} {δ : Dc} {rw : Rw} (h : WebOk W) (hx : WdOk W x) (h1 : 1 ≤ g) (h2 : g < W.many) (hp : p < W.many) (x1 x8 x9 x10 : Sl) :
    (isTw W p g δ = true → ∃ l', tiB [.val (dWeb W), x1, .val (.int (p : Int)), .val (.int (g : Int)), .val (dP x.1), .val (.lst (x.2.map dWs)), .val (dO (thereW W p g)), .val (dDic δ), x8, x9, x10] rw = .ok (.ret (dWeb (twWeb W x p g δ)), l', rw)) ∧
    (isTw W p g δ = false → tiB [.val (dWeb W), x1, .val (.int (p : Int)), .val (.int (g : Int)), .val (dP x.1), .val (.lst (x.2.map dWs)), .val (dO (thereW W p g)), .val (dDic δ), x8, x9, x10] rw = .ok (.next, [.val (dWeb W), x1, .val (.int (p : Int)), .val (.int (g : Int)), .val (dP x.1), .val (.lst (x.2.map dWs)), .val (dO (thereW W p g)), .val (dDic δ), x8, x9, x10], rw)) := by
  have hlo := h.lo
  have hhi := h.hi
  have el := lk_dDic δ p
  have gd := fun o => getD_dO (δ.lookup p) none o
  have tC := tiC_ok (rw := rw) h hx x1 (.val (.int (p : Int))) (.val (.int (g : Int))) (.val (dP x.1)) (.val (dO (thereW W p g))) (.val (dDic δ)) x8 x9 x10
  have hc : ∀ l : Dl, l[7]? = some (.val (dDic δ)) → l[2]? = some (.val (.int (p : Int))) → l[6]? = some (.val (dO (thereW W p g))) → tOr' (toB (eBin fNe (eGet2 (eV 7) (eV 2) (eV 6)) (eV 6))) (toB (eBin (fDin true) (eV 2) (eV 7))) l rw = .ok (isTw W p g δ, rw) := by
    intro l a7 a2 a6
    have hn := fNe_dOO ((δ.lookup p).getD (thereW W p g)) (thereW W p g)
    unfold dDic at a7
    have gdt := gd (thereW W p g)
    unfold isTw
    have hdi := fDin_dic true (p : Int) (dKs δ) (δ.map fun p => dO p.2)
    simp -implicitDefEqProofs only [tOr_ap, toB_ap, eBin_ap, eGet2_ap, eV_ap, a7, a2, a6, getV_val, bind_ok, el, gdt, hn, ofO_some, toBK_bl, hdi, if_true]
    cases q : δ.lookup p with
    | none => simp
    | some o =>
      by_cases e : o = thereW W p g
      · subst e; simp
      · simp [e]
  constructor
  · intro ht
    have i0 := ix0 W
    have i2 := ix2 W
    have wa := wayOf_at h h1 h2
    have ig := wa.ix
    have eo := other_next_ok (m := W.many) (p := p) (o := thereW W p g) (rw := rw) ⟨hlo, by omega⟩ hp
    have gdo := gd (otherN W.many p (thereW W p g))
    generalize hon : (δ.lookup p).getD (otherN W.many p (thereW W p g)) = on at gdo
    have ew := with_way_post (δ := δ) (o := on) (rw := rw) wa.ok.len (by omega) hp
    have etw : (fillW W.many (wayOf W g) δ).set p on = twWay W p g δ := by unfold twWay; rw [hon]
    rw [etw] at ew
    have ei : L2.ixN ((twWays W x).map dWay).length ((g : Int) - 1) = some (g - 1) := by
      rw [List.length_map, twWays_len]
      unfold L2.ixN
      rw [if_pos (by omega), if_pos (by omega)]
      congr 1
      omega
    have hcc := hc [.val (dWeb W), x1, .val (.int (p : Int)), .val (.int (g : Int)), .val (dP x.1), .val (.lst (x.2.map dWs)), .val (dO (thereW W p g)), .val (dDic δ), x8, x9, x10] rfl rfl rfl
    rw [ht] at hcc
    have h3 : 3 ≤ sizeLine := sl_big (by decide)
    have ed : dWeb (twWeb W x p g δ) = .tup [.int (W.many : Int), dP x.1, .tup (((twWays W x).map dWay).set (g - 1) (dWay (twWay W p g δ)))] := by
      rw [← List.map_set]; rfl
    rw [ed]
    generalize dWeb W = DW at *
    unfold tiB
    generalize hD : dDic δ = DD at *
    have hDD : DD = .dic (dKs δ) (δ.map fun p => dO p.2) := hD.symm
    refine ⟨[.val DW, x1, .val (.int (p : Int)), .val (.int (g : Int)), .val (dP x.1), .val (.lst (x.2.map dWs)), .val (dO (thereW W p g)), .val DD, .own (.lst (((twWays W x).map dWay).set (g - 1) (dWay (twWay W p g δ)))), .val (dO on), x10], ?_⟩
    simp -implicitDefEqProofs only [sIf_ap, hcc, bind_ok, if_true, sSeq_ap, sSetO_ap, tC, List.set_cons_succ, List.set_cons_zero, seqK_next, sSet_ap, eGet2_ap, eV_ap, List.getElem?_cons_succ, List.getElem?_cons_zero, getV_val]
    rw [hDD]
    simp -implicitDefEqProofs only [eCall_ap, aCons_ap, aNil_ap, eBin_ap, eV_ap, eK_ap, List.getElem?_cons_succ, List.getElem?_cons_zero, getV_val, bind_ok, i0, ofO_some, eo, el, gdo, List.set_cons_succ, List.set_cons_zero, seqK_next, sStore_ap, i2, fSub_int, fIx_tup, ig]
    rw [← hDD]
    simp -implicitDefEqProofs only [sSeq_ap, sStore_ap, eCall_ap, i2, fSub_int, fIx_tup, ig, ew, bind_ok, ei, List.set_cons_succ, List.set_cons_zero, seqK_next, sRet_ap, eTup_ap, aCons_ap, aNil_ap, eBin_ap, eV_ap, eK_ap, List.getElem?_cons_succ, List.getElem?_cons_zero, getV_val, i0, ofO_some, eTupO_ap, List.length_cons, List.length_nil, Nat.zero_add, Nat.reduceAdd, h3, if_true]
  · intro ht
    have hcc := hc [.val (dWeb W), x1, .val (.int (p : Int)), .val (.int (g : Int)), .val (dP x.1), .val (.lst (x.2.map dWs)), .val (dO (thereW W p g)), .val (dDic δ), x8, x9, x10] rfl rfl rfl
    rw [ht] at hcc
    generalize dWeb W = DW at *
    unfold tiB
    simp -implicitDefEqProofs only [sIf_ap, hcc, bind_ok, Bool.false_eq_true, if_false, sNext_ap]
end HC
end
section
/-! Plain lemmas: twin_in, twin_of, twin, known. -/
namespace HC
open PySem PySem.Spec L2 HD
def dOW : Option Web → D
  | none => .non
  | some V => dWeb V
theorem notNon_dOW (o : Option Web) : notNonD (dOW o) = some (.bl o.isSome) := by cases o <;> rfl
theorem isNon_dOW (o : Option Web) : isNonD (dOW o) = some (.bl o.isNone) := by cases o <;> rfl
theorem ti_loop {W : Web} {x : Wd} {p g : Nat} {rw : Rw} (h : WebOk W) (hx : WdOk W x) (h1 : 1 ≤ g) (h2 : g < W.many) (hp : p < W.many) (x1 x8 x9 x10 : Sl) : ∀ (ws : List Dc) (x7 : Sl),
    (∀ δ, ws.find? (isTw W p g) = some δ → ∃ l', sLoop (gN 7) tiB (ws.map dDic) [.val (dWeb W), x1, .val (.int (p : Int)), .val (.int (g : Int)), .val (dP x.1), .val (.lst (x.2.map dWs)), .val (dO (thereW W p g)), x7, x8, x9, x10] rw = .ok (.ret (dWeb (twWeb W x p g δ)), l', rw)) ∧
    (ws.find? (isTw W p g) = none → ∃ l', sLoop (gN 7) tiB (ws.map dDic) [.val (dWeb W), x1, .val (.int (p : Int)), .val (.int (g : Int)), .val (dP x.1), .val (.lst (x.2.map dWs)), .val (dO (thereW W p g)), x7, x8, x9, x10] rw = .ok (.next, l', rw))
  | [], x7 => ⟨fun δ e => by simp at e, fun _ => ⟨_, rfl⟩⟩
  | δ :: ws, x7 => by
    obtain ⟨t1, t2⟩ := tiB_ok (δ := δ) (rw := rw) h hx h1 h2 hp x1 x8 x9 x10
    obtain ⟨i1, i2⟩ := ti_loop (rw := rw) h hx h1 h2 hp x1 x8 x9 x10 ws (.val (dDic δ))
    rw [List.map_cons, sLoop]
    simp only [gN_ap, List.set_cons_succ, List.set_cons_zero]
    cases q : isTw W p g δ with
    | true =>
      obtain ⟨l', e⟩ := t1 q
      rw [List.find?_cons, q]
      refine ⟨fun δ' ed => ?_, fun ed => by simp at ed⟩
      cases ed
      exact ⟨l', by rw [e]; rfl⟩
    | false =>
      rw [List.find?_cons, q, t2 q]
      exact ⟨i1, i2⟩
theorem twin_in_ok {W : Web} {x : Wd} {p g : Nat} {rw : Rw} (h : WebOk W) (hx : WdOk W x) (h1 : 1 ≤ g) (h2 : g < W.many) (hp : p < W.many) : d_twin_in [dWeb W, dWd x, .int (p : Int), .int (g : Int)] rw = .ok (dOW (twinF W p g x), rw) := by
  unfold d_twin_in
  rw [dDef4, b_ti]
  have hlo := h.lo
  have wa := wayOf_at h h1 h2
  have ig := wa.ix
  have i2 := ix2 W
  have hgl : g - 1 < x.2.length := by have := hx.len; omega
  have gk : x.2[g - 1]? = some x.2[g - 1] := List.getElem?_eq_getElem hgl
  have e1 : L2.atI (x.2.map dWs) ((g : Int) - 1) = some (.lst (x.2[g - 1].map dDic)) := by
    rw [show ((g : Int) - 1) = ((g - 1 : Nat) : Int) by omega, atI_nat_eq, List.getElem?_map, gk]; rfl
  have e2 : L2.atI ((wayOf W g).map dO) (p : Int) = some (dO (thereW W p g)) := by
    rw [atI_nat_eq, List.getElem?_map, way_get wa.ok hp]; rfl
  have ef : twinF W p g x = (x.2[g - 1].find? (isTw W p g)).map (twWeb W x p g) := by unfold twinF; rw [gk]; rfl
  obtain ⟨t1, t2⟩ := ti_loop (rw := rw) h hx h1 h2 hp (.val (dWd x)) .no .no .no x.2[g - 1] .no
  have ed : dWd x = .tup [dP x.1, .lst (x.2.map dWs)] := rfl
  have ew : dWay (wayOf W g) = .tup ((wayOf W g).map dO) := rfl
  rw [ew] at ig
  have h2l : ([dP x.1, D.lst (x.2.map dWs)] : List D).length = 2 := rfl
  rw [ef]
  generalize dWeb W = DW at *
  cases q : x.2[g - 1].find? (isTw W p g) with
  | none =>
    obtain ⟨l', e⟩ := t2 q
    rw [ed] at e ⊢
    simp -implicitDefEqProofs only [List.replicate, sSeq_ap, sAsg_ap, eV_ap, List.getElem?_cons_succ, List.getElem?_cons_zero, getV_val, bind_ok, gT_ap, h2l, if_true, gsCons_ap, gN_ap, gsNil_ap, Option.bind_some, List.set_cons_succ, List.set_cons_zero, seqK_next, sSet_ap, eBin_ap, eK_ap, i2, ofO_some, fSub_int, fIx_tup, ig, e2, sFor_ap, aItems_ap, fIx_lst, e1, itemsOf_lst, e, sRet_ap, dFin_ret, Option.map_none, dOW]
  | some δ =>
    obtain ⟨l', e⟩ := t1 δ q
    rw [ed] at e ⊢
    simp -implicitDefEqProofs only [List.replicate, sSeq_ap, sAsg_ap, eV_ap, List.getElem?_cons_succ, List.getElem?_cons_zero, getV_val, bind_ok, gT_ap, h2l, if_true, gsCons_ap, gN_ap, gsNil_ap, Option.bind_some, List.set_cons_succ, List.set_cons_zero, seqK_next, sSet_ap, eBin_ap, eK_ap, i2, ofO_some, fSub_int, fIx_tup, ig, e2, sFor_ap, aItems_ap, fIx_lst, e1, itemsOf_lst, e, seqK_ret, dFin_ret, Option.map_some, dOW]
def toB' : SM := (sSeq (sSet 5 (eCall d_twin_in (aCons (eV 0) (aCons (eV 4) (aCons (eV 2) (aCons (eV 3) aNil)))))) (sIf (toB (eUn notNonD (eV 5))) (sRet (eV 5)) sNext))
theorem to_loop {W : Web} {p g : Nat} {rw : Rw} (h : WebOk W) (h1 : 1 ≤ g) (h2 : g < W.many) (hp : p < W.many) (x1 : Sl) : ∀ (xs : List Wd) (x4 x5 : Sl), (∀ x ∈ xs, WdOk W x) →
    (∀ V, xs.findSome? (twinF W p g) = some V → ∃ l', sLoop (gN 4) toB' (xs.map dWd) [.val (dWeb W), x1, .val (.int (p : Int)), .val (.int (g : Int)), x4, x5] rw = .ok (.ret (dWeb V), l', rw)) ∧
    (xs.findSome? (twinF W p g) = none → ∃ l', sLoop (gN 4) toB' (xs.map dWd) [.val (dWeb W), x1, .val (.int (p : Int)), .val (.int (g : Int)), x4, x5] rw = .ok (.next, l', rw))
  | [], x4, x5, _ => ⟨fun V e => by simp at e, fun _ => ⟨_, rfl⟩⟩
  | x :: xs, x4, x5, hx => by
    have et := twin_in_ok (rw := rw) h (hx x List.mem_cons_self) h1 h2 hp
    obtain ⟨i1, i2⟩ := to_loop (rw := rw) h h1 h2 hp x1 xs (.val (dWd x)) (.val .non) fun y hy => hx y (List.mem_cons_of_mem _ hy)
    rw [List.map_cons, sLoop]
    simp only [gN_ap, List.set_cons_succ, List.set_cons_zero]
    generalize dWeb W = DW at *
    generalize dWd x = DX at *
    rw [List.findSome?_cons]
    unfold toB' at *
    cases q : twinF W p g x with
    | some V =>
      rw [q] at et
      refine ⟨fun V' e => ?_, fun e => by simp at e⟩
      cases e
      have en := notNon_dOW (some V)
      have ed : dOW (some V) = dWeb V := rfl
      rw [ed] at en et
      refine ⟨[.val DW, x1, .val (.int (p : Int)), .val (.int (g : Int)), .val DX, .val (dWeb V)], ?_⟩
      generalize dWeb V = DV at *
      simp -implicitDefEqProofs only [sSeq_ap, sSet_ap, eCall_ap, aCons_ap, aNil_ap, eV_ap, List.getElem?_cons_succ, List.getElem?_cons_zero, getV_val, bind_ok, et, List.set_cons_succ, List.set_cons_zero, seqK_next, sIf_ap, toB_ap, eUn_ap, en, ofO_some, Option.isSome_some, toBK_bl, if_true, sRet_ap]
    | none =>
      rw [q] at et
      have ed : dOW none = .non := rfl
      rw [ed] at et
      simp -implicitDefEqProofs only [sSeq_ap, sSet_ap, eCall_ap, aCons_ap, aNil_ap, eV_ap, List.getElem?_cons_succ, List.getElem?_cons_zero, getV_val, bind_ok, et, List.set_cons_succ, List.set_cons_zero, seqK_next, sIf_ap, toB_ap, eUn_ap, notNon_non, ofO_some, toBK_bl, Bool.false_eq_true, if_false, sNext_ap]
      exact ⟨i1, i2⟩
theorem twin_of_ok {W : Web} {p g : Nat} {rw : Rw} (h : WebOk W) (h1 : 1 ≤ g) (h2 : g < W.many) (hp : p < W.many) (xs : List Wd) (hx : ∀ x ∈ xs, WdOk W x) : d_twin_of [dWeb W, .lst (xs.map dWd), .int (p : Int), .int (g : Int)] rw = .ok (dOW (xs.findSome? (twinF W p g)), rw) := by
  unfold d_twin_of
  rw [dDef4]
  have eb : b_twin_of = (sSeq (sFor (aItems (eV 1)) (gN 4) toB') (sRet (eK .non))) := rfl
  obtain ⟨t1, t2⟩ := to_loop (rw := rw) h h1 h2 hp (.val (.lst (xs.map dWd))) xs .no .no hx
  rw [eb]
  generalize dWeb W = DW at *
  cases q : xs.findSome? (twinF W p g) with
  | none =>
    obtain ⟨l', e⟩ := t2 q
    simp -implicitDefEqProofs only [List.replicate, sSeq_ap, sFor_ap, aItems_ap, eV_ap, List.getElem?_cons_succ, List.getElem?_cons_zero, getV_val, bind_ok, itemsOf_lst, ofO_some, e, seqK_next, sRet_ap, eK_ap, dFin_ret, dOW]
  | some V =>
    obtain ⟨l', e⟩ := t1 V q
    simp -implicitDefEqProofs only [List.replicate, sSeq_ap, sFor_ap, aItems_ap, eV_ap, List.getElem?_cons_succ, List.getElem?_cons_zero, getV_val, bind_ok, itemsOf_lst, ofO_some, e, seqK_ret, dFin_ret, dOW]
theorem worldsW_ok {W : Web} (h : WebOk W) : ∀ x ∈ worldsW W, WdOk W x := by
  intro x hx
  have hlo := h.lo
  have hhi := h.hi
  unfold worldsW at hx
  obtain ⟨h1, h2⟩ := List.mem_filter.mp hx
  obtain ⟨S, hS, rfl⟩ := List.mem_map.mp h1
  refine ⟨by simp [someW], fun k l e => ?_, (aSil_mem.mp hS).1.len hhi, fun k l e => ?_⟩
  · have := List.all_eq_true.mp h2 l (List.mem_iff_getElem?.mpr ⟨k, e⟩)
    intro el
    rw [el] at this
    cases this
  · have := List.mem_iff_getElem?.mpr ⟨k, e⟩
    obtain ⟨g, hg, rfl⟩ := List.mem_map.mp this
    have hg' := List.mem_range'_1.mp hg
    exact Nat.le_trans (List.length_filter_le _ _) (aWays_len ⟨hlo, hhi⟩ (by omega) (by omega))
def twinO (W : Web) (p g : Nat) : Option Web := (worldsW W).findSome? (twinF W p g)
theorem need_post_ok {m p g : Nat} {rw : Rw} (h1 : 1 ≤ g) (h2 : g < m) (hp : p < m) (hn : p ≠ g) : d_need_post [.int (m : Int), .int (p : Int), .int (g : Int)] rw = .ok (.non, rw) := by
  unfold d_need_post
  rw [dDef3]
  have e1 : decide ((1 : Int) ≤ (g : Int)) = true := decide_eq_true (by omega)
  have e2 : decide ((g : Int) < (m : Int)) = true := decide_eq_true (by omega)
  have e3 : decide ((0 : Int) ≤ (p : Int)) = true := decide_eq_true (by omega)
  have e4 : decide ((p : Int) < (m : Int)) = true := decide_eq_true (by omega)
  have e5 : ¬ (p : Int) = (g : Int) := by omega
  simp -implicitDefEqProofs only [b_need_post, List.replicate, sIf_ap, tOr_ap, tNot_ap, toB_ap, eChain_ap, eK_ap, eV_ap, List.getElem?_cons_succ, List.getElem?_cons_zero, getV_val, bind_ok, fLe, fLt, fCmp_int, e1, e2, e3, e4, ofO_some, toBK_bl, Bool.not_true, Bool.false_eq_true, if_false, eBin_ap, fEq_int, e5, decide_false, sNext_ap, dFin_next]
theorem twin_ok {W : Web} {p g : Nat} {rw : Rw} (h : WebOk W) (h1 : 1 ≤ g) (h2 : g < W.many) (hp : p < W.many) (hn : p ≠ g) : d_twin [dWeb W, .int (p : Int), .int (g : Int)] rw = .ok (dOW (twinO W p g), rw) := by
  unfold d_twin
  rw [dDef3]
  have e1 := need_web_ok (rw := rw) h
  have e2 := need_post_ok (rw := rw) h1 h2 hp hn
  have e3 := all_worlds_ok (rw := rw) h
  have e4 := twin_of_ok (rw := rw) h h1 h2 hp (worldsW W) (worldsW_ok h)
  have i0 := ix0 W
  have et : (worldsW W).findSome? (twinF W p g) = twinO W p g := rfl
  rw [et] at e4
  generalize dWeb W = DW at *
  simp -implicitDefEqProofs only [b_twin, List.replicate, sSeq_ap, sExpr_ap, eCall_ap, aCons_ap, aNil_ap, eV_ap, eBin_ap, eK_ap, List.getElem?_cons_succ, List.getElem?_cons_zero, getV_val, bind_ok, e1, seqK_next, i0, ofO_some, e2, sRet_ap, e3, e4, dFin_ret]
/-! ### known -/
def knB (W : Web) (p g : Nat) : Bool := !decide (p = g) && (twinO W p g).isNone
def knD (W : Web) (p g : Nat) : D := .tup [.int (p : Int), .int (g : Int), dO (thereW W p g)]
def knP (W : Web) (p : Nat) : List D := ((List.range' 1 (W.many - 1)).filter (knB W p)).map (knD W p)
def knownL (W : Web) : List D := (List.range' 0 W.many).flatMap (knP W)
def knB1 : SM := (sIf (tAnd' (toB (eBin fNe (eV 3) (eV 4))) (toB (eUn isNonD (eCall d_twin_of (aCons (eV 0) (aCons (eV 1) (aCons (eV 3) (aCons (eV 4) aNil)))))))) (sMut "list" 2 fAppend (aCons (eTup (aCons (eV 3) (aCons (eV 4) (aCons (eBin fIx (eBin fIx (eBin fIx (eV 0) (eK (.int 2))) (eBin fSub (eV 4) (eK (.int 1)))) (eV 3)) aNil)))) aNil)) sNext)
theorem kn_turn {W : Web} {p g : Nat} {rw : Rw} (h : WebOk W) (h1 : 1 ≤ g) (h2 : g < W.many) (hp : p < W.many) (ds : List D) (hd : ds.length ≤ 10000) :
    knB1 [.val (dWeb W), .val (.lst ((worldsW W).map dWd)), .own (.lst ds), .val (.int (p : Int)), .val (.int (g : Int))] rw = .ok (.next, [.val (dWeb W), .val (.lst ((worldsW W).map dWd)), .own (.lst (ds ++ if knB W p g = true then [knD W p g] else [])), .val (.int (p : Int)), .val (.int (g : Int))], rw) := by
  have i2 := ix2 W
  have wa := wayOf_at h h1 h2
  have ig := wa.ix
  have ew : dWay (wayOf W g) = .tup ((wayOf W g).map dO) := rfl
  rw [ew] at ig
  have e2 : L2.atI ((wayOf W g).map dO) (p : Int) = some (dO (thereW W p g)) := by
    rw [atI_nat_eq, List.getElem?_map, way_get wa.ok hp]; rfl
  have e4 := twin_of_ok (rw := rw) h h1 h2 hp (worldsW W) (worldsW_ok h)
  have et : (worldsW W).findSome? (twinF W p g) = twinO W p g := rfl
  rw [et] at e4
  have en := isNon_dOW (twinO W p g)
  have h3 : 3 ≤ sizeLine := sl_big (by decide)
  have hl : ds.length < sizeLine := sl_lt (by omega)
  generalize dWeb W = DW at *
  generalize (D.lst ((worldsW W).map dWd)) = DL at *
  unfold knB1 knB knD
  by_cases hpg : p = g
  · have hpg' : (p : Int) = (g : Int) := by omega
    simp -implicitDefEqProofs only [hpg, hpg', decide_true, Bool.not_true, Bool.false_and, Bool.false_eq_true, if_false, List.append_nil, sIf_ap, tAnd_ap, toB_ap, eBin_ap, eV_ap, List.getElem?_cons_succ, List.getElem?_cons_zero, getV_val, bind_ok, fNe_int, ofO_some, toBK_bl, sNext_ap]
  · have hpg' : ¬ (p : Int) = (g : Int) := by omega
    generalize dOW (twinO W p g) = DT at *
    cases q : (twinO W p g).isNone with
    | true =>
      rw [q] at en
      simp -implicitDefEqProofs only [hpg, hpg', decide_false, Bool.not_false, Bool.true_and, if_true, sIf_ap, tAnd_ap, toB_ap, eBin_ap, eUn_ap, eCall_ap, aCons_ap, aNil_ap, eV_ap, eK_ap, List.getElem?_cons_succ, List.getElem?_cons_zero, getV_val, bind_ok, fNe_int, ofO_some, toBK_bl, e4, en, sMut_ap, tyD_lst, eTup_ap, i2, fSub_int, fIx_tup, ig, e2, List.length_cons, List.length_nil, Nat.zero_add, Nat.reduceAdd, h3, fAppend_lst, hl, noX_ok, List.set_cons_succ, List.set_cons_zero]
    | false =>
      rw [q] at en
      simp -implicitDefEqProofs only [hpg, hpg', decide_false, Bool.not_false, Bool.and_false, Bool.false_eq_true, if_false, if_true, List.append_nil, sIf_ap, tAnd_ap, toB_ap, eBin_ap, eUn_ap, eCall_ap, aCons_ap, aNil_ap, eV_ap, List.getElem?_cons_succ, List.getElem?_cons_zero, getV_val, bind_ok, fNe_int, ofO_some, toBK_bl, e4, en, sNext_ap]
theorem kn_goals {W : Web} {p : Nat} {rw : Rw} (h : WebOk W) (hp : p < W.many) : ∀ (gs : List Nat) (ds : List D) (x4 : Sl), (∀ g ∈ gs, 1 ≤ g ∧ g < W.many) → ds.length + gs.length ≤ 10000 →
    ∃ x4', sLoop (gN 4) knB1 (dNs gs) [.val (dWeb W), .val (.lst ((worldsW W).map dWd)), .own (.lst ds), .val (.int (p : Int)), x4] rw = .ok (.next, [.val (dWeb W), .val (.lst ((worldsW W).map dWd)), .own (.lst (ds ++ (gs.filter (knB W p)).map (knD W p))), .val (.int (p : Int)), x4'], rw)
  | [], ds, x4, _, _ => ⟨x4, by simp [sLoop, dNs]⟩
  | g :: gs, ds, x4, hg, hl => by
    rw [List.length_cons] at hl
    have e1 := kn_turn (rw := rw) h (hg g List.mem_cons_self).1 (hg g List.mem_cons_self).2 hp ds (by omega)
    have hle : (if knB W p g = true then [knD W p g] else []).length ≤ 1 := by split <;> simp
    obtain ⟨x4', e2⟩ := kn_goals (rw := rw) h hp gs (ds ++ if knB W p g = true then [knD W p g] else []) (.val (.int (g : Int))) (fun k hk => hg k (List.mem_cons_of_mem _ hk)) (by rw [List.length_append]; omega)
    refine ⟨x4', ?_⟩
    have : dNs (g :: gs) = .int (g : Int) :: dNs gs := rfl
    rw [this, sLoop]
    simp only [gN_ap, List.set_cons_succ, List.set_cons_zero]
    rw [e1]
    simp only [bind_ok]
    rw [e2]
    have : ds ++ ((g :: gs).filter (knB W p)).map (knD W p) = (ds ++ if knB W p g = true then [knD W p g] else []) ++ (gs.filter (knB W p)).map (knD W p) := by
      rw [List.filter_cons]
      cases knB W p g <;> simp
    rw [this]
def knB2 : SM := (sFor (aRng rng2 (aCons (eK (.int 1)) (aCons (eBin fIx (eV 0) (eK (.int 0))) aNil))) (gN 4) knB1)
theorem kn_posts {W : Web} {rw : Rw} (h : WebOk W) : ∀ (ps : List Nat) (ds : List D) (x3 x4 : Sl), (∀ p ∈ ps, p < W.many) → ds.length + ps.length * 10 ≤ 10000 →
    ∃ x3' x4', sLoop (gN 3) knB2 (dNs ps) [.val (dWeb W), .val (.lst ((worldsW W).map dWd)), .own (.lst ds), x3, x4] rw = .ok (.next, [.val (dWeb W), .val (.lst ((worldsW W).map dWd)), .own (.lst (ds ++ ps.flatMap (knP W))), x3', x4'], rw)
  | [], ds, x3, x4, _, _ => ⟨x3, x4, by simp [sLoop, dNs]⟩
  | p :: ps, ds, x3, x4, hp, hl => by
    have hlo := h.lo
    have hhi := h.hi
    rw [List.length_cons, Nat.succ_mul] at hl
    obtain ⟨x4a, e1⟩ := kn_goals (rw := rw) h (hp p List.mem_cons_self) (List.range' 1 (W.many - 1)) ds x4 (fun g hg => by have := List.mem_range'_1.mp hg; omega) (by rw [List.length_range']; omega)
    have hkl : (knP W p).length ≤ 5 := by
      unfold knP
      rw [List.length_map]
      refine Nat.le_trans (List.length_filter_le _ _) ?_
      rw [List.length_range']; omega
    have ek : ((List.range' 1 (W.many - 1)).filter (knB W p)).map (knD W p) = knP W p := rfl
    rw [ek] at e1
    obtain ⟨x3', x4', e2⟩ := kn_posts (rw := rw) h ps (ds ++ knP W p) (.val (.int (p : Int))) x4a (fun k hk => hp k (List.mem_cons_of_mem _ hk)) (by rw [List.length_append]; omega)
    refine ⟨x3', x4', ?_⟩
    have hr : rng2 [.int (1 : Int), .int (W.many : Int)] = some (dNs (List.range' 1 (W.many - 1))) := (rng2_of' (i := 1) (j := (W.many : Int)) (a := 1) (b := W.many) rfl rfl (by omega) (by omega)).trans (by rw [rangeD_dNs])
    have i0 := ix0 W
    have : dNs (p :: ps) = .int (p : Int) :: dNs ps := rfl
    rw [this, sLoop]
    simp only [gN_ap, List.set_cons_succ, List.set_cons_zero]
    rw [List.flatMap_cons, ← List.append_assoc, ← e2]
    generalize dWeb W = DW at *
    generalize (D.lst ((worldsW W).map dWd)) = DL at *
    have eB : ∀ (l : Dl), l = [.val DW, .val DL, .own (.lst ds), .val (.int (p : Int)), x4] → knB2 l rw = .ok (.next, [.val DW, .val DL, .own (.lst (ds ++ knP W p)), .val (.int (p : Int)), x4a], rw) := by
      rintro l rfl
      unfold knB2
      simp -implicitDefEqProofs only [sFor_ap, aRng_ap, aCons_ap, aNil_ap, eK_ap, eBin_ap, eV_ap, List.getElem?_cons_zero, getV_val, bind_ok, i0, ofO_some, hr, e1]
    rw [eB _ rfl]
    rfl
theorem known_ok {W : Web} {rw : Rw} (h : WebOk W) : d_known [dWeb W] rw = .ok (.lst (knownL W), rw) := by
  have hlo := h.lo
  have hhi := h.hi
  unfold d_known
  rw [dDef1]
  have eb : b_known = (sSeq (sExpr (eCall d_need_web (aCons (eV 0) aNil))) (sSeq (sSet 1 (eCall d_all_worlds (aCons (eV 0) aNil))) (sSeq (sSetO 2 (eLst aNil)) (sSeq (sFor (aRng rng1 (aCons (eBin fIx (eV 0) (eK (.int 0))) aNil)) (gN 3) knB2) (sRetV 2))))) := rfl
  have e1 := need_web_ok (rw := rw) h
  have e3 := all_worlds_ok (rw := rw) h
  obtain ⟨x3, x4, e2⟩ := kn_posts (rw := rw) h (List.range' 0 W.many) [] .no .no (fun p hp => by have := List.mem_range'_1.mp hp; omega) (by rw [List.length_range', List.length_nil]; omega)
  have ek : ([] : List D) ++ (List.range' 0 W.many).flatMap (knP W) = knownL W := rfl
  rw [ek] at e2
  have hr : rng1 [.int (W.many : Int)] = some (dNs (List.range' 0 W.many)) := by
    rw [rng1_of' (n := W.many) rfl (by omega)]
    have := rangeD_dNs 0 W.many
    rw [show ((0 : Nat) : Int) = 0 from rfl] at this
    rw [this]
  have i0 := ix0 W
  have hz : (0 : Nat) ≤ sizeLine := Nat.zero_le _
  rw [eb]
  generalize dWeb W = DW at *
  generalize (D.lst ((worldsW W).map dWd)) = DL at *
  simp -implicitDefEqProofs only [List.replicate, sSeq_ap, sExpr_ap, eCall_ap, aCons_ap, aNil_ap, eV_ap, List.getElem?_cons_succ, List.getElem?_cons_zero, getV_val, bind_ok, e1, seqK_next, sSet_ap, e3, List.set_cons_succ, List.set_cons_zero, sSetO_ap, eLst_ap, List.length_nil, hz, if_true, ofO_some, sFor_ap, aRng_ap, eBin_ap, eK_ap, i0, hr, e2, sRetV_ap, dFin_ret]
end HC
end
section
/-! Plain lemmas: the law's ways and walks. -/
namespace HC
open PySem PySem.Spec L2 HD
/-- a law's way: what is told of each post; none: '?' -/
abbrev LW : Type := List (Option (Option Nat))
def dQ : Option (Option Nat) → D
  | none => .str "?"
  | some o => dO o
def dLW (u : LW) : D := .tup (u.map dQ)
def toW (u : LW) : List (Option Nat) := u.map fun o => o.getD none
/-- u tells all that a walk sees -/
structure LWOk (m g : Nat) (u : LW) : Prop where
  way : WayOk m g (toW u)
  seen : ∀ p, p ≠ g → Sees (toW u) g p → u[p]? ≠ some none
theorem LWOk.len {m g : Nat} {u : LW} (h : LWOk m g u) : u.length = m := by have := h.way.len; unfold toW at this; rwa [List.length_map] at this
theorem toW_get {u : LW} {p : Nat} : (toW u)[p]? = (u[p]?).map fun o => o.getD none := by unfold toW; rw [List.getElem?_map]
theorem LWOk.tells {m g : Nat} {u : LW} (hm : 0 < m) (h : LWOk m g u) : TellsU (u.map dQ) (toW u) g := fun n p q hg => by
  have hp := posM_lt hm h.way n p q
  have hpu : p < u.length := by rw [h.len]; exact hp
  have g0 : u[p]? = some u[p] := List.getElem?_eq_getElem hpu
  have hs := h.seen p hg ⟨n, q⟩
  rw [atI_nat_eq, List.getElem?_map, toW_get, g0]
  rw [g0] at hs
  cases e : u[p] with
  | none => rw [e] at hs; exact absurd rfl hs
  | some o => rfl
theorem atI_rep {x : D} {n : Nat} {i : Int} {j : Nat} (h : i = (j : Int)) (hj : j < n) : L2.atI (List.replicate n x) i = some x := by
  rw [h, atI_nat_eq, List.getElem?_replicate, if_pos hj]
theorem flat_rep (x : D) : ∀ k : Nat, (List.replicate k [x]).flatten = List.replicate k x
  | 0 => rfl
  | k + 1 => by rw [List.replicate_succ, List.flatten_cons, flat_rep x k, List.replicate_succ]; rfl
theorem fMul_rep (x : D) (k : Nat) (h : k ≤ 1000) : fMul (.lst [x]) (.int (k : Int)) = some (.lst (List.replicate k x)) := by
  unfold fMul
  dsimp only
  rw [if_pos ⟨by omega, sl_big (by simp; omega)⟩, Int.toNat_natCast, flat_rep]
theorem law_told_ok {m g n : Nat} {S : List Nat} {u : LW} {rw : Rw} (h : LWOk m g u) (hm : m ≤ 6) (h1 : 1 ≤ g) (h2 : g < m) (hn : n ≤ 60) : d__law_told [dP S, dLW u, .int (g : Int), .int (n : Int)] rw = .ok (ansM S g (posM (toW u) g n), rw) := by
  have ig : L2.atI (List.replicate (m - 1) (dLW u)) ((g : Int) - 1) = some (.tup (u.map dQ)) := atI_rep (j := g - 1) (by omega) (by omega)
  have ea := law_asked_gen (mD := .int (m : Int)) (S := S) (rw := rw) ig (h.tells (by omega)) hn
  have em := fMul_rep (dLW u) (m - 1) (by omega)
  have em' : (m : Int) - 1 = ((m - 1 : Nat) : Int) := by omega
  have h1s : 1 ≤ sizeLine := sl_big (by decide)
  have h3s : 3 ≤ sizeLine := sl_big (by decide)
  have el : fLen [dLW u] = some (.int (m : Int)) := by
    show some (D.int ((u.map dQ).length : Nat)) = _
    rw [List.length_map, h.len]
  unfold d__law_told
  rw [dDef4]
  unfold dP at *
  generalize dLW u = DU at *
  simp -implicitDefEqProofs only [b__law_told, List.replicate, sSeq_ap, sSet_ap, eArgs_ap, aCons_ap, aNil_ap, eV_ap, List.getElem?_cons_succ, List.getElem?_cons_zero, getV_val, bind_ok, el, ofO_some, List.set_cons_succ, List.set_cons_zero, seqK_next, eTup_ap, eBin_ap, eLst_ap, List.length_cons, List.length_nil, Nat.zero_add, h1s, if_true, eK_ap, fSub_int, em', em, fTuple_lst, Nat.reduceAdd, h3s, sRet_ap, eCall_ap, ea, dFin_ret]
/-! ### all walks -/
def lwOf (m g : Nat) (δ : Dc) : LW := (List.range' 0 m).map fun i => if i = g then some none else δ.lookup i
theorem lwOf_len (m g : Nat) (δ : Dc) : (lwOf m g δ).length = m := by simp [lwOf]
theorem lwOf_get {m g i : Nat} {δ : Dc} (h : i < m) : (lwOf m g δ)[i]? = some (if i = g then some none else δ.lookup i) := by
  unfold lwOf
  rw [List.getElem?_map, List.getElem?_range' h]
  simp
def links (P : List Nat) : Dc := (wend P none).dropLast
theorem links_snoc (P : List Nat) (v : Nat) : links (P ++ [v]) = wend P (some v) := by
  unfold links
  rw [wend_concat, List.dropLast_concat]
theorem wend_links {P : List Nat} {q : Nat} (h : P.getLast? = some q) (t : Option Nat) : wend P t = links P ++ [(q, t)] := by
  have hne : P ≠ [] := fun e => by rw [e] at h; simp at h
  have e := (List.dropLast_concat_getLast hne).symm
  have eq : P.getLast hne = q := by rw [List.getLast?_eq_some_getLast hne] at h; exact Option.some.inj h
  rw [eq] at e
  rw [e, wend_concat, links_snoc]
theorem lookup_app {α : Type} (δ : List (Nat × α)) (q : Nat) (t : α) (h : q ∉ δ.map (·.1)) (i : Nat) : (δ ++ [(q, t)]).lookup i = if i = q then some t else δ.lookup i := by
  induction δ with
  | nil =>
    by_cases e : i = q
    · subst e; simp
    · have : (i == q) = false := by simpa using e
      simp [List.lookup, this, e]
  | cons a δ ih =>
    obtain ⟨k, x⟩ := a
    rw [List.map_cons, List.mem_cons] at h
    rw [List.cons_append, List.lookup_cons, List.lookup_cons, ih fun z => h (.inr z)]
    by_cases e : i = k
    · subst e
      have : i ≠ q := fun z => h (.inl z.symm)
      simp [this]
    · have : (i == k) = false := by simpa using e
      rw [this]
theorem lwOf_set {m g q : Nat} {P : List Nat} {t : Option Nat} (hP : Path m g P) (h : P.getLast? = some q) : (lwOf m g (links P)).set q (some t) = lwOf m g (wend P t) := by
  have hq := hP.lt q (List.mem_of_getLast? h)
  have hn : q ∉ (links P).map (·.1) := by
    have hk := wend_keys P t
    rw [wend_links h t, List.map_append] at hk
    have hnd := hP.nd
    rw [← hk, List.nodup_append] at hnd
    intro z
    exact hnd.2.2 q z q (by simp) rfl
  apply List.ext_getElem?
  intro i
  by_cases hi : i < m
  · rw [List.getElem?_set, lwOf_get hi, lwOf_get hi, lwOf_len, wend_links h t, lookup_app _ _ _ hn]
    by_cases e : q = i
    · subst e
      rw [if_pos rfl, if_pos hi, if_neg hq.2, if_pos rfl]
    · rw [if_neg e, if_neg (fun z : i = q => e z.symm)]
  · rw [List.getElem?_eq_none (by rw [List.length_set, lwOf_len]; omega), List.getElem?_eq_none (by rw [lwOf_len]; omega)]
def dIt (m g : Nat) (P : List Nat) : D := .tup [dP P, dLW (lwOf m g (links P))]
def dR (m g : Nat) (δ : Dc) : D := dLW (lwOf m g δ)
def lastN (P : List Nat) : Nat := P.getLast?.getD 0
def nextsL (m : Nat) (P : List Nat) : List (Option Nat) := none :: (oth m (lastN P)).map some
def bRun (m g : Nat) : Nat → List Dc → List (List Nat) → Option (List Dc)
  | 0, _, _ => none
  | _ + 1, f, [] => some f
  | n + 1, f, P :: L => bRun m g n (f ++ (nextsL m P).flatMap (aF g P)) (((nextsL m P).flatMap (aL g P)).reverse ++ L)
def lwB : SM := (sSeq (sSet 8 (eBin fAdd (eBin fAdd (eSl (eV 5) pNone (pSome (eV 6))) (eTup (aCons (eV 7) aNil))) (eSl (eV 5) (pSome (eBin fAdd (eV 6) (eK (.int 1)))) pNone))) (sIf (tOr' (toB (eUn isNonD (eV 7))) (tOr' (toB (eBin fEq (eV 7) (eV 1))) (toB (eBin (fIn false) (eV 7) (eV 4))))) (sMut "list" 2 fAppend (aCons (eV 8) aNil)) (sMut "list" 3 fAppend (aCons (eTup (aCons (eBin fAdd (eV 4) (eTup (aCons (eV 7) aNil))) (aCons (eV 8) aNil))) aNil))))
theorem lwB_ok {m g q : Nat} {P : List Nat} {rw : Rw} (hP : Path m g P) (hq : P.getLast? = some q) (hm : m ≤ 6) (f L : List D) (hf : f.length ≤ 10000) (hL : L.length ≤ 10000) (t : Option Nat) (ht : t ≠ some q) (x8 x9 : Sl) :
    ∃ x8', lwB [.val (.int (m : Int)), .val (.int (g : Int)), .own (.lst f), .own (.lst L), .val (dP P), .val (dLW (lwOf m g (links P))), .val (.int (q : Int)), .val (dO t), x8, x9] rw =
      .ok (.next, [.val (.int (m : Int)), .val (.int (g : Int)), .own (.lst (f ++ (aF g P t).map (dR m g))), .own (.lst (L ++ (aL g P t).map (dIt m g))), .val (dP P), .val (dLW (lwOf m g (links P))), .val (.int (q : Int)), .val (dO t), x8', x9], rw) := by
  have hqm := hP.lt q (List.mem_of_getLast? hq)
  have hl1 : f.length < sizeLine := sl_lt (by omega)
  have hl2 : L.length < sizeLine := sl_lt (by omega)
  have h1s : 1 ≤ sizeLine := sl_big (by decide)
  have h2s : 2 ≤ sizeLine := sl_big (by decide)
  have sp := splice dQ (lwOf m g (links P)) q (some t) (by rw [lwOf_len]; exact hqm.1)
  rw [lwOf_set hP hq] at sp
  have hul : ((lwOf m g (links P)).map dQ).length ≤ 6 := by rw [List.length_map, lwOf_len]; exact hm
  have edq : dQ (some t) = dO t := rfl
  rw [edq] at sp
  generalize hU : (lwOf m g (links P)).map dQ = U at sp hul
  have c1 := cutD_len U none (some (q : Int))
  have c2 := cutD_len U (some ((q : Int) + 1)) none
  have a1 := fAdd_tup (cutD U none (some (q : Int))) [dO t] (by rw [List.length_singleton]; omega)
  have a2 := fAdd_tup (cutD U none (some (q : Int)) ++ [dO t]) (cutD U (some ((q : Int) + 1)) none) (by rw [List.length_append, List.length_singleton]; omega)
  rw [sp] at a2
  have eu : dLW (lwOf m g (links P)) = .tup U := by unfold dLW; rw [hU]
  have er : dR m g (wend P t) = .tup ((lwOf m g (wend P t)).map dQ) := rfl
  generalize hR : (lwOf m g (wend P t)).map dQ = R at a2 er
  refine ⟨.val (.tup R), ?_⟩
  rw [eu]
  unfold lwB dP
  cases t with
  | none =>
    have ea : aF g P none = [wend P none] := by unfold aF; rw [hq, if_neg (by simp)]
    have eb : aL g P none = [] := rfl
    rw [dO_none] at a1 a2
    rw [ea, eb]
    simp -implicitDefEqProofs only [List.map_cons, List.map_nil, List.append_nil, er, sSeq_ap, sSet_ap, eBin_ap, eSl_ap, pNone_ap, pSome_ap, eV_ap, eK_ap, eTup_ap, aCons_ap, aNil_ap, List.getElem?_cons_succ, List.getElem?_cons_zero, getV_val, bind_ok, fSl_tup, ofO_some, fAdd_int, dO_none, List.length_cons, List.length_nil, Nat.zero_add, h1s, if_true, a1, a2, List.set_cons_succ, List.set_cons_zero, seqK_next, sIf_ap, tOr_ap, toB_ap, eUn_ap, isNon_non, toBK_bl, sMut_ap, tyD_lst, fAppend_lst, hl1, noX_ok]
  | some v =>
    have hv : v ≠ q := fun e => ht (by rw [e])
    have hne : (some v : Option Nat) ≠ P.getLast? := by rw [hq]; exact ht
    rw [dO_some] at a1 a2
    by_cases hg : v = g
    · subst hg
      have ea : aF v P (some v) = [wend P (some v)] := by unfold aF; rw [if_neg hne]; simp
      have eb : aL v P (some v) = [] := by unfold aL; simp
      rw [ea, eb]
      simp -implicitDefEqProofs only [List.map_cons, List.map_nil, List.append_nil, er, sSeq_ap, sSet_ap, eBin_ap, eSl_ap, pNone_ap, pSome_ap, eV_ap, eK_ap, eTup_ap, aCons_ap, aNil_ap, List.getElem?_cons_succ, List.getElem?_cons_zero, getV_val, bind_ok, fSl_tup, ofO_some, fAdd_int, dO_some, List.length_cons, List.length_nil, Nat.zero_add, h1s, if_true, a1, a2, List.set_cons_succ, List.set_cons_zero, seqK_next, sIf_ap, tOr_ap, toB_ap, eUn_ap, isNon_int, toBK_bl, Bool.false_eq_true, if_false, fEq_int, decide_true, sMut_ap, tyD_lst, fAppend_lst, hl1, noX_ok]
    · have hg' : ¬ (v : Int) = (g : Int) := by omega
      by_cases hp : v ∈ P
      · have ea : aF g P (some v) = [wend P (some v)] := by unfold aF; rw [if_neg hne]; simp [hp]
        have eb : aL g P (some v) = [] := by unfold aL; simp [hp]
        rw [ea, eb]
        simp -implicitDefEqProofs only [List.map_cons, List.map_nil, List.append_nil, er, sSeq_ap, sSet_ap, eBin_ap, eSl_ap, pNone_ap, pSome_ap, eV_ap, eK_ap, eTup_ap, aCons_ap, aNil_ap, List.getElem?_cons_succ, List.getElem?_cons_zero, getV_val, bind_ok, fSl_tup, ofO_some, fAdd_int, dO_some, List.length_cons, List.length_nil, Nat.zero_add, h1s, if_true, a1, a2, List.set_cons_succ, List.set_cons_zero, seqK_next, sIf_ap, tOr_ap, toB_ap, eUn_ap, isNon_int, toBK_bl, Bool.false_eq_true, if_false, fEq_int, hg', decide_false, fIn_dNsT, hp, decide_true, sMut_ap, tyD_lst, fAppend_lst, hl1, noX_ok]
      · have ea : aF g P (some v) = [] := by unfold aF; rw [if_neg hne]; simp [hg, hp]
        have eb : aL g P (some v) = [P ++ [v]] := by unfold aL; simp [hg, hp]
        have edp : dNs (P ++ [v]) = dNs P ++ [.int (v : Int)] := dNs_append P [v]
        have hle : (dNs P).length + [D.int (v : Int)].length ≤ 100000 := by rw [dNs_len]; have := hP.len; simp; omega
        have ead := fAdd_tup (dNs P) [.int (v : Int)] hle
        have edi : dIt m g (P ++ [v]) = .tup [.tup (dNs P ++ [.int (v : Int)]), .tup R] := by
          unfold dIt dP
          rw [edp, links_snoc, ← hR]; rfl
        rw [ea, eb]
        simp -implicitDefEqProofs only [List.map_cons, List.map_nil, List.append_nil, edi, sSeq_ap, sSet_ap, eBin_ap, eSl_ap, pNone_ap, pSome_ap, eV_ap, eK_ap, eTup_ap, aCons_ap, aNil_ap, List.getElem?_cons_succ, List.getElem?_cons_zero, getV_val, bind_ok, fSl_tup, ofO_some, fAdd_int, dO_some, List.length_cons, List.length_nil, Nat.zero_add, Nat.reduceAdd, h1s, h2s, if_true, a1, a2, List.set_cons_succ, List.set_cons_zero, seqK_next, sIf_ap, tOr_ap, toB_ap, eUn_ap, isNon_int, toBK_bl, Bool.false_eq_true, if_false, fEq_int, hg', decide_false, fIn_dNsT, hp, ead, sMut_ap, tyD_lst, fAppend_lst, hl2, noX_ok]
theorem lw_loop2 {m g q : Nat} {P : List Nat} {rw : Rw} (hP : Path m g P) (hq : P.getLast? = some q) (hm : m ≤ 6) (x9 : Sl) : ∀ (ts : List (Option Nat)) (f : List Dc) (L : List D) (x7 x8 : Sl), (∀ t ∈ ts, t ≠ some q) → f.length + ts.length ≤ 10000 → L.length + ts.length ≤ 10000 →
    ∃ x7' x8', sLoop (gN 7) lwB (ts.map dO) [.val (.int (m : Int)), .val (.int (g : Int)), .own (.lst (f.map (dR m g))), .own (.lst L), .val (dP P), .val (dLW (lwOf m g (links P))), .val (.int (q : Int)), x7, x8, x9] rw =
      .ok (.next, [.val (.int (m : Int)), .val (.int (g : Int)), .own (.lst ((f ++ ts.flatMap (aF g P)).map (dR m g))), .own (.lst (L ++ (ts.flatMap (aL g P)).map (dIt m g))), .val (dP P), .val (dLW (lwOf m g (links P))), .val (.int (q : Int)), x7', x8', x9], rw)
  | [], f, L, x7, x8, _, _, _ => ⟨x7, x8, by simp [sLoop]⟩
  | t :: ts, f, L, x7, x8, ht, hf, hL => by
    rw [List.length_cons] at hf hL
    have l1 := aF_len g P t
    have l2 := aL_len g P t
    obtain ⟨x8a, e1⟩ := lwB_ok (rw := rw) hP hq hm (f.map (dR m g)) L (by rw [List.length_map]; omega) (by omega) t (ht t List.mem_cons_self) x8 x9
    obtain ⟨x7', x8', e⟩ := lw_loop2 (rw := rw) hP hq hm x9 ts (f ++ aF g P t) (L ++ (aL g P t).map (dIt m g)) (.val (dO t)) x8a (fun s hs => ht s (List.mem_cons_of_mem _ hs)) (by rw [List.length_append]; omega) (by rw [List.length_append, List.length_map]; omega)
    refine ⟨x7', x8', ?_⟩
    rw [List.map_cons, sLoop]
    simp only [gN_ap, List.set_cons_succ, List.set_cons_zero]
    rw [e1]
    rw [List.map_append] at e
    rw [List.flatMap_cons, List.flatMap_cons, ← List.append_assoc, List.map_append (l₁ := aL g P t), ← List.append_assoc]
    simp only [bind_ok]
    rw [e]
theorem nexts_len {m : Nat} {P : List Nat} : (nextsL m P).length ≤ m + 1 := by
  unfold nextsL oth
  rw [List.length_cons, List.length_map]
  have := List.length_filter_le (fun j => !decide (j = lastN P)) (List.range' 0 m)
  rw [List.length_range'] at this
  omega
theorem nexts_mem {m q : Nat} {P : List Nat} (hq : P.getLast? = some q) {t : Option Nat} : t ∈ nextsL m P ↔ t ∈ opts m ∧ t ≠ some q := by
  have hl : lastN P = q := by unfold lastN; rw [hq]; rfl
  unfold nextsL
  rw [hl, opts_mem, List.mem_cons]
  constructor
  · rintro (h | h)
    · subst h; exact ⟨fun v e => (by cases e), by simp⟩
    · obtain ⟨v, hv, rfl⟩ := List.mem_map.mp h
      have := oth_mem hv
      exact ⟨fun u e => by cases e; exact this.1, by simpa using this.2⟩
  · rintro ⟨h1, h2⟩
    cases t with
    | none => exact .inl rfl
    | some v =>
      refine .inr (List.mem_map.mpr ⟨v, ?_, rfl⟩)
      unfold oth
      rw [List.mem_filter, List.mem_range'_1]
      have := h1 v rfl
      have hne : v ≠ q := fun e => h2 (by rw [e])
      exact ⟨by omega, by simpa using hne⟩
def lwT : SM := (sSeq (sPopG 3 (gT 2 (gsCons (gN 4) (gsCons (gN 5) gsNil)))) (sSeq (sSet 6 (eBin fIx (eV 4) (eUn fNeg (eK (.int 1))))) (sFor (aItems (eBin fAdd (eLst (aCons (eK .non) aNil)) (eComp (aRng rng1 (aCons (eV 0) aNil)) (gN 9) (toB (eBin fNe (eV 9) (eV 6))) (eV 9) [9]))) (gN 7) lwB)))
theorem lw_while {m g : Nat} {rw : Rw} (hm : m ≤ 6) : ∀ (n : Nat) (f : List Dc) (L : List (List Nat)) (r : List Dc) (x4 x5 x6 x7 x8 x9 : Sl), bRun m g n f L = some r → (∀ Q ∈ L, Path m g Q) → f.length + 7 * n ≤ 10000 → L.length + 7 * n ≤ 10000 →
    ∃ x4' x5' x6' x7' x8' x9', sWhile awW lwT n [.val (.int (m : Int)), .val (.int (g : Int)), .own (.lst (f.map (dR m g))), .own (.lst (L.map (dIt m g)).reverse), x4, x5, x6, x7, x8, x9] rw = .ok (.next, [.val (.int (m : Int)), .val (.int (g : Int)), .own (.lst (r.map (dR m g))), .own (.lst []), x4', x5', x6', x7', x8', x9'], rw)
  | 0, f, L, r, _, _, _, _, _, _, h, _, _, _ => by cases h
  | n + 1, f, [], r, x4, x5, x6, x7, x8, x9, h, _, _, _ => by
    cases h
    have hz : (0 : Nat) ≤ sizeLine := Nat.zero_le _
    refine ⟨x4, x5, x6, x7, x8, x9, ?_⟩
    rw [sWhile_succ]
    unfold awW
    simp -implicitDefEqProofs only [List.map_nil, List.reverse_nil, tBor_ap, List.getElem?_cons_succ, List.getElem?_cons_zero, List.set_cons_succ, List.set_cons_zero, toB_ap, eBin_ap, eV_ap, getV_val, bind_ok, eLst_ap, aNil_ap, List.length_nil, hz, if_true, ofO_some, fNe_nil, toBK_bl, noX_ok, Bool.false_eq_true, if_false]
  | n + 1, f, P :: L, r, x4, x5, x6, x7, x8, x9, h, hQ, hf, hL => by
    rw [List.length_cons] at hL
    have hP := hQ P List.mem_cons_self
    obtain ⟨_, q, _, hq⟩ := hP.last
    have hlq : lastN P = q := by unfold lastN; rw [hq]; rfl
    have k0 := nexts_len (m := m) (P := P)
    have k1 := flatMap_len (aF_len g P) (nextsL m P)
    have k2 := flatMap_len (aL_len g P) (nextsL m P)
    obtain ⟨x7a, x8a, e1⟩ := lw_loop2 (rw := rw) hP hq hm x9 (nextsL m P) f (L.map (dIt m g)).reverse x7 x8 (fun t ht => ((nexts_mem hq).mp ht).2) (by omega) (by rw [List.length_reverse, List.length_map]; omega)
    obtain ⟨x4', x5', x6', x7', x8', x9', e2⟩ := lw_while (rw := rw) hm n (f ++ (nextsL m P).flatMap (aF g P)) (((nextsL m P).flatMap (aL g P)).reverse ++ L) r (.val (dP P)) (.val (dLW (lwOf m g (links P)))) (.val (.int (q : Int))) x7a x8a x9 h (fun Q hq' => by
      rcases List.mem_append.mp hq' with hq' | hq'
      · obtain ⟨t, ht, hm'⟩ := List.mem_flatMap.mp (List.mem_reverse.mp hq')
        exact hP.more (List.mem_flatMap.mpr ⟨t, ((nexts_mem hq).mp ht).1, hm'⟩)
      · exact hQ Q (List.mem_cons_of_mem _ hq')) (by rw [List.length_append]; omega) (by rw [List.length_append, List.length_reverse]; omega)
    have erev : ((((nextsL m P).flatMap (aL g P)).reverse ++ L).map (dIt m g)).reverse = (L.map (dIt m g)).reverse ++ ((nextsL m P).flatMap (aL g P)).map (dIt m g) := by
      rw [List.map_append, List.reverse_append, List.map_reverse, List.reverse_reverse]
    rw [erev] at e2
    have hz : (0 : Nat) ≤ sizeLine := Nat.zero_le _
    have h1 : 1 ≤ sizeLine := sl_big (by decide)
    have epop : ((P :: L).map (dIt m g)).reverse = (L.map (dIt m g)).reverse ++ [dIt m g P] := by rw [List.map_cons, List.reverse_cons]
    have hfit : fit 8 (.lst ((L.map (dIt m g)).reverse ++ [dIt m g P])) = true := by
      rw [fit_lst, List.all_eq_true]
      intro d hd
      have : d ∈ (P :: L).map (dIt m g) := by rw [← epop] at hd; exact List.mem_reverse.mp hd
      obtain ⟨Q, _, rfl⟩ := List.mem_map.mp this
      unfold dIt dP dLW
      rw [fit_tup]
      simp only [List.all_cons, List.all_nil, fit_tup, Bool.and_true, Bool.and_eq_true]
      refine ⟨fit_dNs 5 Q, ?_⟩
      rw [List.all_eq_true]
      intro d hd
      obtain ⟨o, _, rfl⟩ := List.mem_map.mp hd
      cases o with
      | none => show fit 5 (.str "?") = true; rw [fit_str]; decide +kernel
      | some o => exact fit_dO 5 o
    have en : fNe (.lst ((L.map (dIt m g)).reverse ++ [dIt m g P])) (.lst []) = some (.bl true) := by
      cases hc : (L.map (dIt m g)).reverse ++ [dIt m g P] with
      | nil => simp at hc
      | cons a r => exact fNe_cn _ _ (hc ▸ hfit)
    have egl : ((L.map (dIt m g)).reverse ++ [dIt m g P]).getLast? = some (dIt m g P) := List.getLast?_concat
    have edl : ((L.map (dIt m g)).reverse ++ [dIt m g P]).dropLast = (L.map (dIt m g)).reverse := List.dropLast_concat
    have edi : dIt m g P = .tup [dP P, dLW (lwOf m g (links P))] := rfl
    have e2l : ([dP P, dLW (lwOf m g (links P))] : List D).length = 2 := rfl
    have hlast : L2.atI (dNs P) (-1) = some (.int (q : Int)) := by
      obtain ⟨Q, q', e, hq2⟩ := hP.last
      rw [hq] at hq2; cases hq2
      rw [e]; exact atI_last' _ _
    have ec := fun U : D => compL_nat (tg := gN 9) (c := toB (eBin fNe (eV 9) (eV 6))) (e := eV 9) (lw := [.val (.int (m : Int)), .val (.int (g : Int)), .own (.lst (f.map (dR m g))), .own (.lst (L.map (dIt m g)).reverse), .val (.tup (dNs P)), .val U, .val (.int (q : Int)), x7, x8, .no]) (rw := rw) (fun j => !decide (j = q)) (List.range' 0 m) fun j _ => ⟨[.val (.int (m : Int)), .val (.int (g : Int)), .own (.lst (f.map (dR m g))), .own (.lst (L.map (dIt m g)).reverse), .val (.tup (dNs P)), .val U, .val (.int (q : Int)), x7, x8, .val (.int (j : Int))], rfl, by
      have hd : decide ((j : Int) = (q : Int)) = decide (j = q) := by simp; omega
      simp -implicitDefEqProofs only [toB_ap, eBin_ap, eV_ap, List.getElem?_cons_succ, List.getElem?_cons_zero, getV_val, bind_ok, fNe_int, hd, ofO_some, toBK_bl], by simp -implicitDefEqProofs only [eV_ap, List.getElem?_cons_succ, List.getElem?_cons_zero, getV_val]⟩
    have eo : (List.range' 0 m).filter (fun j => !decide (j = q)) = oth m q := rfl
    rw [eo] at ec
    have hr : rng1 [.int (m : Int)] = some (dNs (List.range' 0 m)) := by
      rw [rng1_of' (n := m) rfl (by omega)]
      have := rangeD_dNs 0 m
      rw [show ((0 : Nat) : Int) = 0 from rfl] at this
      rw [this]
    have hrl : (dNs (List.range' 0 m)).length ≤ sizeLine := sl_big (by rw [dNs_len, List.length_range']; omega)
    have ea : fAdd (.lst [.non]) (.lst (dNs (oth m q))) = some (.lst ((nextsL m P).map dO)) := by
      rw [fAdd_lst _ _ (by
        rw [dNs_len]
        unfold oth
        have := List.length_filter_le (fun j => !decide (j = q)) (List.range' 0 m)
        rw [List.length_range'] at this
        simp only [List.length_cons, List.length_nil]; omega)]
      unfold nextsL
      rw [hlq, List.map_cons, List.map_map]; rfl
    refine ⟨x4', x5', x6', x7', x8', x9', ?_⟩
    rw [sWhile_succ, epop]
    have ecc := ec (dLW (lwOf m g (links P)))
    have hwp : wipeD [.val (.int (m : Int)), .val (.int (g : Int)), .own (.lst (f.map (dR m g))), .own (.lst (L.map (dIt m g)).reverse), .val (.tup (dNs P)), .val (dLW (lwOf m g (links P))), .val (.int (q : Int)), x7, x8, x9] [9] = [.val (.int (m : Int)), .val (.int (g : Int)), .own (.lst (f.map (dR m g))), .own (.lst (L.map (dIt m g)).reverse), .val (.tup (dNs P)), .val (dLW (lwOf m g (links P))), .val (.int (q : Int)), x7, x8, .no] := rfl
    rw [edi] at egl edl en ⊢
    have ec0 : awW [.val (.int (m : Int)), .val (.int (g : Int)), .own (.lst (f.map (dR m g))), .own (.lst ((L.map (dIt m g)).reverse ++ [.tup [dP P, dLW (lwOf m g (links P))]])), x4, x5, x6, x7, x8, x9] rw = .ok (true, rw) := by
      unfold awW
      simp -implicitDefEqProofs only [tBor_ap, List.getElem?_cons_succ, List.getElem?_cons_zero, List.set_cons_succ, List.set_cons_zero, toB_ap, eBin_ap, eV_ap, getV_val, bind_ok, eLst_ap, aNil_ap, List.length_nil, hz, if_true, ofO_some, en, toBK_bl, noX_ok]
    have eT : lwT [.val (.int (m : Int)), .val (.int (g : Int)), .own (.lst (f.map (dR m g))), .own (.lst ((L.map (dIt m g)).reverse ++ [.tup [dP P, dLW (lwOf m g (links P))]])), x4, x5, x6, x7, x8, x9] rw = .ok (.next, [.val (.int (m : Int)), .val (.int (g : Int)), .own (.lst ((f ++ (nextsL m P).flatMap (aF g P)).map (dR m g))), .own (.lst ((L.map (dIt m g)).reverse ++ ((nextsL m P).flatMap (aL g P)).map (dIt m g))), .val (dP P), .val (dLW (lwOf m g (links P))), .val (.int (q : Int)), x7a, x8a, x9], rw) := by
      unfold dP at *
      generalize dLW (lwOf m g (links P)) = U at *
      unfold lwT
      simp -implicitDefEqProofs only [sSeq_ap, sPopG_ap, List.getElem?_cons_succ, List.getElem?_cons_zero, egl, edl, List.set_cons_succ, List.set_cons_zero, gT_ap, e2l, if_true, gsCons_ap, gN_ap, gsNil_ap, Option.bind_some, bind_ok, seqK_next, sSet_ap, eBin_ap, eUn_ap, eV_ap, eK_ap, getV_val, fNeg_int, ofO_some, fIx_tup, hlast, sFor_ap, aItems_ap, eLst_ap, aCons_ap, aNil_ap, List.length_cons, List.length_nil, Nat.zero_add, h1, eComp_ap, aRng_ap, hr, hrl, hwp, ecc, ea, itemsOf_lst, e1]
    rw [ec0]
    simp only [bind_ok, if_true]
    rw [eT]
    simp only [bind_ok]
    exact e2
theorem law_all_walks_of {m g : Nat} {rw : Rw} {r : List Dc} (hm : 2 ≤ m ∧ m ≤ 6) (h1 : 1 ≤ g) (h2 : g < m) (h : bRun m g 100 [] [[0]] = some r) : d__law_all_walks [.int (m : Int), .int (g : Int)] rw = .ok (.lst (r.map (dR m g)), rw) := by
  obtain ⟨x4, x5, x6, x7, x8, x9, e⟩ := lw_while (rw := rw) hm.2 100 [] [[0]] r .no .no .no .no .no .no h (fun Q hQ => by rw [List.mem_singleton.mp hQ]; exact path0 (by omega) (by omega)) (by simp) (by simp)
  have eb : b__law_all_walks = (sSeq (sSetO 2 (eLst aNil)) (sSeq (sSetO 3 (eLst (aCons (eTup (aCons (eTup (aCons (eK (.int 0)) aNil)) (aCons (eArgs fTuple (aCons (eBin fAdd (eBin fAdd (eBin fMul (eLst (aCons (eK (.str "?")) aNil)) (eV 1)) (eLst (aCons (eK .non) aNil))) (eBin fMul (eLst (aCons (eK (.str "?")) aNil)) (eBin fSub (eBin fSub (eV 0) (eV 1)) (eK (.int 1))))) aNil)) aNil))) aNil))) (sSeq (sWhile awW lwT 100) (sRetV 2)))) := rfl
  have hz : (0 : Nat) ≤ sizeLine := Nat.zero_le _
  have h1s : 1 ≤ sizeLine := sl_big (by decide)
  have h2s : 2 ≤ sizeLine := sl_big (by decide)
  have m1 := fMul_rep (.str "?") g (by omega)
  have m2 := fMul_rep (.str "?") (m - g - 1) (by omega)
  have em : (m : Int) - (g : Int) - 1 = ((m - g - 1 : Nat) : Int) := by omega
  have a1 := fAdd_lst (List.replicate g (.str "?")) [.non] (by rw [List.length_replicate, List.length_singleton]; omega)
  have a2 := fAdd_lst (List.replicate g (.str "?") ++ [.non]) (List.replicate (m - g - 1) (.str "?")) (by simp; omega)
  have ed : dIt m g [0] = .tup [.tup [.int 0], .tup (List.replicate g (.str "?") ++ [.non] ++ List.replicate (m - g - 1) (.str "?"))] := by
    have e0 : links [0] = [] := rfl
    unfold dIt dLW
    rw [e0]
    have : (lwOf m g []).map dQ = List.replicate g (.str "?") ++ [.non] ++ List.replicate (m - g - 1) (.str "?") := by
      apply List.ext_getElem?
      intro i
      rw [List.getElem?_map]
      by_cases hi : i < m
      · rw [lwOf_get hi]
        by_cases hg : i = g
        · subst hg
          rw [if_pos rfl, List.append_assoc, List.getElem?_append_right (by simp), List.length_replicate, Nat.sub_self]; rfl
        · rw [if_neg hg]
          by_cases hlt : i < g
          · rw [List.append_assoc, List.getElem?_append_left (by simpa using hlt), List.getElem?_replicate, if_pos hlt]; rfl
          · rw [List.getElem?_append_right (by simp; omega), List.getElem?_replicate, if_pos (by simp; omega)]; rfl
      · rw [List.getElem?_eq_none (by rw [lwOf_len]; omega), List.getElem?_eq_none (by simp; omega)]; rfl
    rw [this]; rfl
  unfold d__law_all_walks
  rw [dDef2, eb]
  rw [List.map_cons, List.map_nil, List.map_nil, List.reverse_cons, List.reverse_nil, List.nil_append, ed] at e
  generalize hU : List.replicate g (D.str "?") ++ [.non] ++ List.replicate (m - g - 1) (.str "?") = U at *
  generalize List.replicate g (D.str "?") = A at *
  generalize List.replicate (m - g - 1) (D.str "?") = B at *
  simp -implicitDefEqProofs only [List.replicate, sSeq_ap, sSetO_ap, eLst_ap, aNil_ap, bind_ok, List.length_nil, hz, if_true, ofO_some, List.set_cons_succ, List.set_cons_zero, seqK_next, aCons_ap, eTup_ap, eK_ap, List.length_cons, Nat.zero_add, Nat.reduceAdd, h1s, h2s, eArgs_ap, eBin_ap, eV_ap, List.getElem?_cons_succ, List.getElem?_cons_zero, getV_val, m1, fSub_int, em, m2, a1, a2, fTuple_lst, e, sRetV_ap, dFin_ret]
def bWays (m g : Nat) : List Dc := (bRun m g 100 [] [[0]]).getD []
theorem bWays_some : ∀ m : Fin 7, ∀ g : Fin 6, 2 ≤ m.1 → 1 ≤ g.1 → g.1 < m.1 → (bRun m g 100 [] [[0]]).isSome = true ∧ (bWays m.1 g.1).length ≤ 1000 := by decide +kernel
theorem bWays_eq {m g : Nat} (hm : 2 ≤ m ∧ m ≤ 6) (h1 : 1 ≤ g) (h2 : g < m) : bRun m g 100 [] [[0]] = some (bWays m g) := by
  have := (bWays_some ⟨m, by omega⟩ ⟨g, by omega⟩ hm.1 h1 h2).1
  unfold bWays
  cases e : bRun m g 100 [] [[0]] with
  | none => rw [e] at this; cases this
  | some r => rfl
theorem law_all_walks_ok {m g : Nat} {rw : Rw} (hm : 2 ≤ m ∧ m ≤ 6) (h1 : 1 ≤ g) (h2 : g < m) : d__law_all_walks [.int (m : Int), .int (g : Int)] rw = .ok (.lst ((bWays m g).map (dR m g)), rw) := law_all_walks_of hm h1 h2 (bWays_eq hm h1 h2)
theorem bRun_isW {m g : Nat} : ∀ (n : Nat) (f : List Dc) (L : List (List Nat)) (r : List Dc), bRun m g n f L = some r → (∀ δ ∈ f, IsW m g δ) → (∀ Q ∈ L, Path m g Q) → ∀ δ ∈ r, IsW m g δ
  | 0, _, _, _, h, _, _ => by cases h
  | n + 1, f, [], r, h, hf, _ => by cases h; exact hf
  | n + 1, f, P :: L, r, h, hf, hL => by
    have hP := hL P List.mem_cons_self
    obtain ⟨_, q, _, hq⟩ := hP.last
    refine bRun_isW n _ _ r h (fun δ hδ => ?_) fun Q hQ => ?_
    · rcases List.mem_append.mp hδ with hδ | hδ
      · exact hf δ hδ
      · obtain ⟨t, ht, hd⟩ := List.mem_flatMap.mp hδ
        exact aF_isW hP ((nexts_mem hq).mp ht).1 hd
    · rcases List.mem_append.mp hQ with hQ | hQ
      · obtain ⟨t, ht, hm'⟩ := List.mem_flatMap.mp (List.mem_reverse.mp hQ)
        exact hP.more (List.mem_flatMap.mpr ⟨t, ((nexts_mem hq).mp ht).1, hm'⟩)
      · exact hL Q (List.mem_cons_of_mem _ hQ)
theorem bRun_cov {m g : Nat} {w : List (Option Nat)} (hw : WayOk m g w) : ∀ (n : Nat) (f : List Dc) (L : List (List Nat)) (r : List Dc), bRun m g n f L = some r → (∀ Q ∈ L, Path m g Q) →
    ((∃ δ ∈ f, IsWalkOf w g δ) ∨ ∃ P ∈ L, Link w P) → ∃ δ ∈ r, IsWalkOf w g δ
  | 0, _, _, _, h, _, _ => by cases h
  | n + 1, f, [], r, h, _, hc => by
    cases h
    rcases hc with hc | ⟨P, hP, _⟩
    · exact hc
    · cases hP
  | n + 1, f, P :: L, r, h, hL, hc => by
    have hP := hL P List.mem_cons_self
    obtain ⟨_, q, _, hq⟩ := hP.last
    refine bRun_cov hw n _ _ r h (fun Q hQ => ?_) ?_
    · rcases List.mem_append.mp hQ with hQ | hQ
      · obtain ⟨t, ht, hm'⟩ := List.mem_flatMap.mp (List.mem_reverse.mp hQ)
        exact hP.more (List.mem_flatMap.mpr ⟨t, ((nexts_mem hq).mp ht).1, hm'⟩)
      · exact hL Q (List.mem_cons_of_mem _ hQ)
    · rcases hc with ⟨δ, hδ, hi⟩ | ⟨Q, hQ, hk⟩
      · exact .inl ⟨δ, List.mem_append_left _ hδ, hi⟩
      · rcases List.mem_cons.mp hQ with rfl | hQ
        case inr => exact .inr ⟨Q, List.mem_append_right _ hQ, hk⟩
        have hqm : q ∈ Q := List.mem_of_getLast? hq
        have hql := (hP.lt q hqm).1
        have hwq := way_get hw hql
        generalize ht : (w[q]?).getD none = t at hwq
        have hto : t ∈ opts m := opts_mem.mpr fun v e => (hw.go q v (by rw [hwq, e])).1
        have htq : t ≠ some q := fun e => (hw.go q q (by rw [hwq, e])).2 rfl
        have hne : t ≠ Q.getLast? := by rw [hq]; exact htq
        have fin : ∀ v, t = some v → v < m := opts_mem.mp hto
        have hnx : t ∈ nextsL m Q := (nexts_mem hq).mpr ⟨hto, htq⟩
        have done : Closed m g Q t → wend Q t ∈ aF g Q t → ((∃ δ ∈ f ++ (nextsL m Q).flatMap (aF g Q), IsWalkOf w g δ) ∨ ∃ P ∈ ((nextsL m Q).flatMap (aL g Q)).reverse ++ L, Link w P) := fun c hmem => .inl ⟨wend Q t, List.mem_append_right f (List.mem_flatMap.mpr ⟨t, hnx, hmem⟩), walk_of hP hk c fun q' hq' => by rw [hq] at hq'; cases hq'; exact hwq⟩
        cases ht' : t with
        | none =>
          subst ht'
          exact done ⟨hne, fun v e => by cases e⟩ (by unfold aF; rw [if_neg hne]; simp)
        | some v =>
          rw [ht'] at hne hwq done hnx fin
          by_cases hv : v = g ∨ v ∈ Q
          · exact done ⟨hne, fun u e => by cases e; exact ⟨fin _ rfl, hv⟩⟩ (by unfold aF; rw [if_neg hne]; simp [hv])
          · refine .inr ⟨Q ++ [v], List.mem_append_left _ (List.mem_reverse.mpr (List.mem_flatMap.mpr ⟨some v, hnx, ?_⟩)), link_snoc hk hq hwq⟩
            unfold aL; dsimp only; rw [if_neg hv]; exact List.mem_singleton.mpr rfl
theorem bWays_isW {m g : Nat} (hm : 2 ≤ m ∧ m ≤ 6) (h1 : 1 ≤ g) (h2 : g < m) : ∀ δ ∈ bWays m g, IsW m g δ :=
  bRun_isW 100 [] [[0]] _ (bWays_eq hm h1 h2) (fun δ h => by cases h) fun Q hQ => by rw [List.mem_singleton.mp hQ]; exact path0 (by omega) (by omega)
theorem bWays_cov {m g : Nat} (hm : 2 ≤ m ∧ m ≤ 6) (h1 : 1 ≤ g) (h2 : g < m) {w : List (Option Nat)} (hw : WayOk m g w) : ∃ δ ∈ bWays m g, IsWalkOf w g δ :=
  bRun_cov hw 100 [] [[0]] _ (bWays_eq hm h1 h2) (fun Q hQ => by rw [List.mem_singleton.mp hQ]; exact path0 (by omega) (by omega)) (.inr ⟨[0], List.mem_singleton.mpr rfl, fun i a b ha hb => by simp at hb⟩)
end HC
end
section
/-! Plain lemmas: the law's all ways, silent ones. -/
namespace HC
open PySem PySem.Spec L2 HD
def cOpts (m g k : Nat) : List (Option Nat) := if k = g then [none] else none :: (oth m k).map some
def cW (m g : Nat) : Nat → List (List (Option Nat))
  | 0 => [[]]
  | k + 1 => (cW m g k).flatMap fun w => (cOpts m g k).map fun t => w ++ [t]
theorem cOpts_len {m g k : Nat} (hk : k < m) : (cOpts m g k).length ≤ m := by
  unfold cOpts
  split
  · simp; omega
  · rw [List.length_cons, List.length_map, oth_len m k hk]; omega
theorem flatMap_len2 {α β : Type} {f : α → List β} {n : Nat} (h : ∀ a, (f a).length ≤ n) : ∀ xs : List α, (xs.flatMap f).length ≤ xs.length * n
  | [] => by simp
  | x :: xs => by
    have h1 := h x
    have h2 := flatMap_len2 h xs
    rw [List.flatMap_cons, List.length_append, List.length_cons, Nat.succ_mul]; omega
theorem cW_len {m g : Nat} : ∀ k, k ≤ m → (cW m g k).length ≤ m ^ k
  | 0, _ => by simp [cW]
  | k + 1, hk => by
    have ih := cW_len (m := m) (g := g) k (by omega)
    unfold cW
    refine Nat.le_trans (flatMap_len2 (n := m) (fun w => by rw [List.length_map]; exact cOpts_len (by omega)) _) ?_
    rw [Nat.pow_succ]
    exact Nat.mul_le_mul_right _ ih
theorem cW_mem {m g : Nat} : ∀ (k : Nat) (w : List (Option Nat)), w ∈ cW m g k ↔ w.length = k ∧ ∀ i t, w[i]? = some t → t ∈ cOpts m g i
  | 0, w => by
    unfold cW
    rw [List.mem_singleton]
    constructor
    · rintro rfl; exact ⟨rfl, fun i t e => by simp at e⟩
    · rintro ⟨h, _⟩; exact List.length_eq_zero_iff.mp h
  | k + 1, w => by
    unfold cW
    rw [List.mem_flatMap]
    constructor
    · rintro ⟨v, hv, h⟩
      obtain ⟨t, ht, rfl⟩ := List.mem_map.mp h
      obtain ⟨h1, h2⟩ := (cW_mem k v).mp hv
      refine ⟨by simp [h1], fun i s e => ?_⟩
      by_cases hi : i < v.length
      · rw [List.getElem?_append_left hi] at e
        exact h2 i s e
      · rw [List.getElem?_append_right (by omega)] at e
        have hi2 : i - v.length = 0 := by
          have := (List.getElem?_eq_some_iff.mp e).1
          simpa using this
        rw [hi2] at e
        simp at e
        subst e
        rw [show i = k by omega]
        exact ht
    · rintro ⟨h1, h2⟩
      have hne : w ≠ [] := fun e => by rw [e] at h1; simp at h1
      have e := (List.dropLast_concat_getLast hne).symm
      have hl : w.dropLast.length = k := by rw [List.length_dropLast]; omega
      refine ⟨w.dropLast, (cW_mem k _).mpr ⟨hl, fun i t ei => ?_⟩, List.mem_map.mpr ⟨w.getLast hne, ?_, e.symm⟩⟩
      · have hi : i < w.dropLast.length := (List.getElem?_eq_some_iff.mp ei).1
        refine h2 i t ?_
        rw [e, List.getElem?_append_left hi]; exact ei
      · refine h2 k _ ?_
        rw [← List.getLast?_eq_some_getLast hne, List.getLast?_eq_getElem?]
        congr 1; omega
theorem cW_way {m g : Nat} (hg : g < m) {w : List (Option Nat)} : w ∈ cW m g m ↔ WayOk m g w := by
  rw [cW_mem]
  constructor
  · rintro ⟨h1, h2⟩
    refine ⟨h1, ?_, fun i v e => ?_⟩
    · have g0 : w[g]? = some w[g] := List.getElem?_eq_getElem (by omega)
      have := h2 g _ g0
      unfold cOpts at this
      rw [if_pos rfl, List.mem_singleton] at this
      rw [g0, this]
    · have := h2 i _ e
      unfold cOpts at this
      split at this
      · simp at this
      · rcases List.mem_cons.mp this with z | z
        · cases z
        · obtain ⟨u, hu, eu⟩ := List.mem_map.mp z
          cases eu
          exact oth_mem hu
  · intro h
    refine ⟨h.len, fun i t e => ?_⟩
    have hi : i < m := by have := (List.getElem?_eq_some_iff.mp e).1; rwa [h.len] at this
    unfold cOpts
    split
    · rename_i hig
      subst hig
      rw [h.at_] at e
      cases e
      simp
    · cases t with
      | none => simp
      | some v =>
        have := h.go i v e
        refine List.mem_cons_of_mem _ (List.mem_map.mpr ⟨v, ?_, rfl⟩)
        unfold oth
        rw [List.mem_filter, List.mem_range'_1]
        exact ⟨by omega, by simpa using this.2⟩
def cwB1 : SM := (sMut "list" 5 fExtend (aCons (eComp (aItems (eIf (toB (eBin fEq (eV 3) (eV 1))) (eLst (aCons (eK .non) aNil)) (eV 4))) (gN 7) cYes (eBin fAdd (eV 6) (eTup (aCons (eV 7) aNil))) [7]) aNil))
theorem cw_turn {m g k : Nat} {w : List (Option Nat)} {rw : Rw} (hm : m ≤ 6) (hk : k < m) (hw : w.length ≤ 6) (ds : List D) (hd : ds.length ≤ 10000) (x2 x7 : Sl) :
    cwB1 [.val (.int (m : Int)), .val (.int (g : Int)), x2, .val (.int (k : Int)), .val (.lst ((none :: (oth m k).map some).map dO)), .own (.lst ds), .val (dWay w), x7] rw =
      .ok (.next, [.val (.int (m : Int)), .val (.int (g : Int)), x2, .val (.int (k : Int)), .val (.lst ((none :: (oth m k).map some).map dO)), .own (.lst (ds ++ (cOpts m g k).map fun t => dWay (w ++ [t]))), .val (dWay w), x7], rw) := by
  have h1 : 1 ≤ sizeLine := sl_big (by decide)
  have ec := fun (U : Sl) (ts : List (Option Nat)) => compL_mapM (tg := gN 7) (c := cYes) (e := eBin fAdd (eV 6) (eTup (aCons (eV 7) aNil))) (lw := [.val (.int (m : Int)), .val (.int (g : Int)), x2, .val (.int (k : Int)), U, .own (.lst ds), .val (dWay w), .no]) (rw := rw) dO (fun t => dWay (w ++ [t])) ts fun t _ => ⟨[.val (.int (m : Int)), .val (.int (g : Int)), x2, .val (.int (k : Int)), U, .own (.lst ds), .val (dWay w), .val (dO t)], rfl, rfl, by
    have ea := fAdd_tup (w.map dO) [dO t] (by rw [List.length_map, List.length_singleton]; omega)
    unfold dWay
    rw [List.map_append]
    simp -implicitDefEqProofs only [eBin_ap, eV_ap, List.getElem?_cons_succ, List.getElem?_cons_zero, getV_val, bind_ok, eTup_ap, aCons_ap, aNil_ap, List.length_cons, List.length_nil, Nat.zero_add, h1, if_true, ofO_some, ea, List.map_cons, List.map_nil]⟩
  have hl := cOpts_len (g := g) hk
  have ee := fExtend_lst ds ((cOpts m g k).map fun t => dWay (w ++ [t])) (by rw [List.length_map]; omega)
  have hwp : ∀ U : Sl, wipeD [.val (.int (m : Int)), .val (.int (g : Int)), x2, .val (.int (k : Int)), U, .own (.lst ds), .val (dWay w), x7] [7] = [.val (.int (m : Int)), .val (.int (g : Int)), x2, .val (.int (k : Int)), U, .own (.lst ds), .val (dWay w), .no] := fun U => rfl
  unfold cwB1
  by_cases hg : k = g
  · subst hg
    have eo : cOpts m k k = [none] := by unfold cOpts; rw [if_pos rfl]
    have ecc := ec (.val (.lst ((none :: (oth m k).map some).map dO))) [none]
    rw [eo] at ee ⊢
    have e0 : ([none] : List (Option Nat)).map dO = [.non] := rfl
    rw [e0] at ecc
    generalize (D.lst ((none :: (oth m k).map some).map dO)) = U at *
    simp -implicitDefEqProofs only [sMut_ap, List.getElem?_cons_succ, List.getElem?_cons_zero, tyD_lst, if_true, aCons_ap, aNil_ap, eComp_ap, aItems_ap, eIf_ap, toB_ap, eBin_ap, eV_ap, getV_val, bind_ok, fEq_int, decide_true, ofO_some, toBK_bl, eLst_ap, eK_ap, List.length_cons, List.length_nil, Nat.zero_add, h1, itemsOf_lst, hwp, ecc, noX_ok, ee, List.set_cons_succ, List.set_cons_zero]
  · have hg' : ¬ (k : Int) = (g : Int) := by omega
    have eo : cOpts m g k = none :: (oth m k).map some := by unfold cOpts; rw [if_neg hg]
    have ecc := ec (.val (.lst ((none :: (oth m k).map some).map dO))) (none :: (oth m k).map some)
    have hul : ((none :: (oth m k).map some).map dO).length ≤ sizeLine := by rw [List.length_map, ← eo]; exact sl_big (by omega)
    rw [eo] at ee ⊢
    generalize ((none :: (oth m k).map some).map dO) = U at *
    simp -implicitDefEqProofs only [sMut_ap, List.getElem?_cons_succ, List.getElem?_cons_zero, tyD_lst, if_true, aCons_ap, aNil_ap, eComp_ap, aItems_ap, eIf_ap, toB_ap, eBin_ap, eV_ap, getV_val, bind_ok, fEq_int, hg', decide_false, ofO_some, toBK_bl, Bool.false_eq_true, if_false, itemsOf_lst, hul, hwp, ecc, noX_ok, ee, List.set_cons_succ, List.set_cons_zero]
theorem cw_loop {m g k : Nat} {rw : Rw} (hm : m ≤ 6) (hk : k < m) (x2 : Sl) : ∀ (ws : List (List (Option Nat))) (ds : List D) (x6 x7 : Sl), (∀ w ∈ ws, w.length ≤ 6) → ds.length + ws.length * 6 ≤ 10000 →
    ∃ x6', sLoop (gN 6) cwB1 (ws.map dWay) [.val (.int (m : Int)), .val (.int (g : Int)), x2, .val (.int (k : Int)), .val (.lst ((none :: (oth m k).map some).map dO)), .own (.lst ds), x6, x7] rw =
      .ok (.next, [.val (.int (m : Int)), .val (.int (g : Int)), x2, .val (.int (k : Int)), .val (.lst ((none :: (oth m k).map some).map dO)), .own (.lst (ds ++ (ws.flatMap fun w => (cOpts m g k).map fun t => w ++ [t]).map dWay)), x6', x7], rw)
  | [], ds, x6, x7, _, _ => ⟨x6, by simp [sLoop]⟩
  | w :: ws, ds, x6, x7, hw, hl => by
    rw [List.length_cons, Nat.succ_mul] at hl
    have e1 := cw_turn (g := g) (rw := rw) hm hk (hw w List.mem_cons_self) ds (by omega) x2 x7
    have hc := cOpts_len (g := g) hk
    obtain ⟨x6', e2⟩ := cw_loop (g := g) (rw := rw) hm hk x2 ws (ds ++ (cOpts m g k).map fun t => dWay (w ++ [t])) (.val (dWay w)) x7 (fun v hv => hw v (List.mem_cons_of_mem _ hv)) (by rw [List.length_append, List.length_map]; omega)
    refine ⟨x6', ?_⟩
    rw [List.map_cons, sLoop]
    simp only [gN_ap, List.set_cons_succ, List.set_cons_zero]
    rw [e1]
    simp only [bind_ok]
    rw [e2, List.flatMap_cons, List.map_append, List.map_map, List.append_assoc]
    rfl
def cwB2 : SM := (sSeq (sSet 4 (eBin fAdd (eLst (aCons (eK .non) aNil)) (eComp (aRng rng1 (aCons (eV 0) aNil)) (gN 7) (toB (eBin fNe (eV 7) (eV 3))) (eV 7) [7]))) (sSeq (sSetO 5 (eLst aNil)) (sSeq (sFor (aItems (eV 2)) (gN 6) cwB1) (sSeq (sFrz 5) (sSet 2 (eV 5))))))
theorem cw_post {m g k : Nat} {rw : Rw} (hm : m ≤ 4) (hk : k < m) (x4 x5 x6 x7 : Sl) : ∃ x4' x5' x6' x7', cwB2 [.val (.int (m : Int)), .val (.int (g : Int)), .val (.lst ((cW m g k).map dWay)), .val (.int (k : Int)), x4, x5, x6, x7] rw =
    .ok (.next, [.val (.int (m : Int)), .val (.int (g : Int)), .val (.lst ((cW m g (k + 1)).map dWay)), .val (.int (k : Int)), x4', x5', x6', x7'], rw) := by
  have hcl := cW_len (m := m) (g := g) k (by omega)
  have hp : m ^ k ≤ 256 := Nat.le_trans (Nat.pow_le_pow_left hm k) (Nat.le_trans (Nat.pow_le_pow_right (by decide) (show k ≤ 4 by omega)) (by decide))
  obtain ⟨x6', e1⟩ := cw_loop (g := g) (rw := rw) (by omega : m ≤ 6) hk (.val (.lst ((cW m g k).map dWay))) (cW m g k) [] x6 x7 (fun w hw => by rw [((cW_mem k w).mp hw).1]; omega) (by rw [List.length_nil]; omega)
  rw [List.nil_append] at e1
  have ec := fun (U : Sl) => compL_nat (tg := gN 7) (c := toB (eBin fNe (eV 7) (eV 3))) (e := eV 7) (lw := [.val (.int (m : Int)), .val (.int (g : Int)), U, .val (.int (k : Int)), x4, x5, x6, .no]) (rw := rw) (fun j => !decide (j = k)) (List.range' 0 m) fun j _ => ⟨[.val (.int (m : Int)), .val (.int (g : Int)), U, .val (.int (k : Int)), x4, x5, x6, .val (.int (j : Int))], rfl, by
    have hd : decide ((j : Int) = (k : Int)) = decide (j = k) := by simp; omega
    simp -implicitDefEqProofs only [toB_ap, eBin_ap, eV_ap, List.getElem?_cons_succ, List.getElem?_cons_zero, getV_val, bind_ok, fNe_int, hd, ofO_some, toBK_bl], by simp -implicitDefEqProofs only [eV_ap, List.getElem?_cons_succ, List.getElem?_cons_zero, getV_val]⟩
  have eo : (List.range' 0 m).filter (fun j => !decide (j = k)) = oth m k := rfl
  rw [eo] at ec
  have hr : rng1 [.int (m : Int)] = some (dNs (List.range' 0 m)) := by
    rw [rng1_of' (n := m) rfl (by omega)]
    have := rangeD_dNs 0 m
    rw [show ((0 : Nat) : Int) = 0 from rfl] at this
    rw [this]
  have hrl : (dNs (List.range' 0 m)).length ≤ sizeLine := sl_big (by rw [dNs_len, List.length_range']; omega)
  have ea : fAdd (.lst [.non]) (.lst (dNs (oth m k))) = some (.lst ((none :: (oth m k).map some).map dO)) := by
    rw [fAdd_lst _ _ (by rw [dNs_len, oth_len m k hk, List.length_singleton]; omega), List.map_cons, List.map_map]; rfl
  have h1 : 1 ≤ sizeLine := sl_big (by decide)
  have hz : (0 : Nat) ≤ sizeLine := Nat.zero_le _
  have ecc := ec (.val (.lst ((cW m g k).map dWay)))
  have hwp : ∀ U : Sl, wipeD [.val (.int (m : Int)), .val (.int (g : Int)), U, .val (.int (k : Int)), x4, x5, x6, x7] [7] = [.val (.int (m : Int)), .val (.int (g : Int)), U, .val (.int (k : Int)), x4, x5, x6, .no] := fun U => rfl
  refine ⟨.val (.lst ((none :: (oth m k).map some).map dO)), .val (.lst ((cW m g (k + 1)).map dWay)), x6', x7, ?_⟩
  have ew : (cW m g k).flatMap (fun w => (cOpts m g k).map fun t => w ++ [t]) = cW m g (k + 1) := rfl
  rw [ew] at e1
  unfold cwB2
  simp -implicitDefEqProofs only [sSeq_ap, sSet_ap, eBin_ap, eLst_ap, aCons_ap, aNil_ap, eK_ap, bind_ok, List.length_cons, List.length_nil, Nat.zero_add, h1, if_true, ofO_some, eComp_ap, aRng_ap, eV_ap, List.getElem?_cons_succ, List.getElem?_cons_zero, getV_val, hr, hrl, hwp, ecc, ea, List.set_cons_succ, List.set_cons_zero, seqK_next, sSetO_ap, hz, sFor_ap, aItems_ap, itemsOf_lst, e1, sFrz_ap]
theorem law_all_ways_ok {m g : Nat} {rw : Rw} (hm : m ≤ 4) : d__law_all_ways [.int (m : Int), .int (g : Int)] rw = .ok (.lst ((cW m g m).map dWay), rw) := by
  have eb : b__law_all_ways = (sSeq (sSet 2 (eLst (aCons (eTup aNil) aNil))) (sSeq (sFor (aRng rng1 (aCons (eV 0) aNil)) (gN 3) cwB2) (sRet (eV 2)))) := rfl
  have hr : rng1 [.int (m : Int)] = some (rangeD 0 m) := rng1_of' (n := m) rfl (by omega)
  let P : Nat → Dl → Rw → Prop := fun k l rw' => rw' = rw ∧ ∃ x3 x4 x5 x6 x7 : Sl, l = [.val (.int (m : Int)), .val (.int (g : Int)), .val (.lst ((cW m g k).map dWay)), x3, x4, x5, x6, x7]
  obtain ⟨l', rw', e, ⟨rfl, x3, x4, x5, x6, x7, rfl⟩⟩ := loop_all (tg := gN 3) (body := cwB2) P (rangeD 0 m) 0 [.val (.int (m : Int)), .val (.int (g : Int)), .val (.lst [.tup []]), .no, .no, .no, .no, .no] rw ⟨rfl, .no, .no, .no, .no, .no, rfl⟩ fun i d l rw' hd hP => by
    obtain ⟨rfl, x3, x4, x5, x6, x7, rfl⟩ := hP
    have hi : i < m := by
      have := (List.getElem?_eq_some_iff.mp hd).1
      rwa [rangeD_len] at this
    rw [rangeD_get hi] at hd
    cases hd
    rw [Int.zero_add, Nat.zero_add]
    obtain ⟨x4', x5', x6', x7', et⟩ := cw_post (g := g) (rw := rw') hm hi x4 x5 x6 x7
    exact ⟨_, rfl, _, rw', .inl et, rfl, .val (.int (i : Int)), x4', x5', x6', x7', rfl⟩
  rw [rangeD_len, Nat.zero_add] at e
  have h1 : 1 ≤ sizeLine := sl_big (by decide)
  have hz : (0 : Nat) ≤ sizeLine := Nat.zero_le _
  unfold d__law_all_ways
  rw [dDef2, eb]
  simp -implicitDefEqProofs only [List.replicate, sSeq_ap, sSet_ap, eLst_ap, aCons_ap, eTup_ap, aNil_ap, bind_ok, List.length_nil, hz, if_true, ofO_some, List.length_cons, Nat.zero_add, h1, List.set_cons_succ, List.set_cons_zero, seqK_next, sFor_ap, aRng_ap, eV_ap, List.getElem?_cons_succ, List.getElem?_cons_zero, getV_val, hr, e, sRet_ap, dFin_ret]
/-! ### the law's ways -/
def lawWays (m g : Nat) : List LW := if m < 5 then (cW m g m).map (fun w => w.map some) else (bWays m g).map (lwOf m g)
theorem some_ways_ok {m g : Nat} {rw : Rw} (hm : 2 ≤ m ∧ m ≤ 6) (h1 : 1 ≤ g) (h2 : g < m) : d__law_some_ways [.int (m : Int), .int (g : Int)] rw = .ok (.lst ((lawWays m g).map dLW), rw) := by
  unfold d__law_some_ways
  rw [dDef2]
  unfold lawWays
  by_cases h : m < 5
  · have e := law_all_ways_ok (m := m) (g := g) (rw := rw) (by omega)
    have hlt : fLt (.int (m : Int)) (.int 5) = some (.bl true) := by unfold fLt; rw [fCmp_int, decide_eq_true (show (m : Int) < 5 by omega)]
    have em : (cW m g m).map dWay = ((cW m g m).map (fun w => w.map some)).map dLW := by
      rw [List.map_map]
      apply List.map_congr_left
      intro w _
      show D.tup (w.map dO) = D.tup ((w.map some).map dQ)
      rw [List.map_map]; rfl
    rw [if_pos h, ← em]
    simp -implicitDefEqProofs only [b__law_some_ways, List.replicate, sRet_ap, eIf_ap, toB_ap, eBin_ap, eV_ap, eK_ap, List.getElem?_cons_succ, List.getElem?_cons_zero, getV_val, bind_ok, hlt, ofO_some, toBK_bl, if_true, eCall_ap, aCons_ap, aNil_ap, e, dFin_ret]
  · have e := law_all_walks_ok (rw := rw) hm h1 h2
    have hlt : fLt (.int (m : Int)) (.int 5) = some (.bl false) := by unfold fLt; rw [fCmp_int, decide_eq_false (show ¬ (m : Int) < 5 by omega)]
    have em : (bWays m g).map (dR m g) = ((bWays m g).map (lwOf m g)).map dLW := by rw [List.map_map]; rfl
    rw [if_neg h, ← em]
    simp -implicitDefEqProofs only [b__law_some_ways, List.replicate, sRet_ap, eIf_ap, toB_ap, eBin_ap, eV_ap, eK_ap, List.getElem?_cons_succ, List.getElem?_cons_zero, getV_val, bind_ok, hlt, ofO_some, toBK_bl, Bool.false_eq_true, if_false, eCall_ap, aCons_ap, aNil_ap, e, dFin_ret]
theorem toW_lwOf {m g : Nat} {δ : Dc} (h : IsW m g δ) : toW (lwOf m g δ) = fill m δ := by
  apply List.ext_getElem?
  intro i
  by_cases hi : i < m
  · rw [toW_get, lwOf_get hi]
    unfold fill
    rw [fillW_get hi]
    have e0 : ((noWay m)[i]?).getD none = none := by unfold noWay; rw [List.getElem?_replicate, if_pos hi]; rfl
    rw [e0]
    by_cases hg : i = g
    · subst hg
      rw [if_pos rfl]
      cases q : δ.lookup i with
      | some o => exact absurd rfl (h.lk_lt q).2.1
      | none => rfl
    · rw [if_neg hg]; rfl
  · rw [List.getElem?_eq_none (by unfold toW; rw [List.length_map, lwOf_len]; omega), List.getElem?_eq_none (by unfold fill; rw [fillW_len]; omega)]
theorem lawWays_ok {m g : Nat} (hm : 2 ≤ m ∧ m ≤ 6) (h1 : 1 ≤ g) (h2 : g < m) : ∀ u ∈ lawWays m g, LWOk m g u := by
  intro u hu
  unfold lawWays at hu
  split at hu
  · obtain ⟨w, hw, rfl⟩ := List.mem_map.mp hu
    have hwo := (cW_way h2).mp hw
    have ew : toW (w.map some) = w := by unfold toW; rw [List.map_map]; simp [Function.comp_def]
    refine ⟨by rw [ew]; exact hwo, fun p _ _ e => ?_⟩
    rw [List.getElem?_map] at e
    cases q : w[p]? with
    | none => rw [q] at e; cases e
    | some o => rw [q] at e; cases e
  · obtain ⟨δ, hδ, rfl⟩ := List.mem_map.mp hu
    have hi := bWays_isW hm h1 h2 δ hδ
    obtain ⟨f1, f2⟩ := hi.fill h2 (noWay_ok h2)
    have et := toW_lwOf hi
    refine ⟨by rw [et]; exact f1, fun p hp hs e => ?_⟩
    rw [et] at hs
    have hpm : p < m := by have := (List.getElem?_eq_some_iff.mp e).1; rwa [lwOf_len] at this
    rw [lwOf_get hpm, if_neg hp] at e
    have := (f2 p _).mpr ⟨hp, hs, way_get f1 hpm⟩
    rw [this] at e
    cases e
/-- every way is told by one of the law's -/
theorem lawWays_cov {m g : Nat} (hm : 2 ≤ m ∧ m ≤ 6) (h1 : 1 ≤ g) (h2 : g < m) {w : List (Option Nat)} (hw : WayOk m g w) : ∃ u ∈ lawWays m g, (∀ n, posM (toW u) g n = posM w g n) ∧ ∀ p, p ≠ g → p < m → (Sees w g p ∨ m < 5) → u[p]? = some (w[p]?) := by
  unfold lawWays
  split
  · rename_i h5
    have ew : toW (w.map some) = w := by unfold toW; rw [List.map_map]; simp [Function.comp_def]
    refine ⟨w.map some, List.mem_map.mpr ⟨w, (cW_way h2).mpr hw, rfl⟩, fun n => by rw [ew], fun p _ hp _ => ?_⟩
    rw [List.getElem?_map, way_get hw hp]; rfl
  · rename_i h5
    obtain ⟨δ, hδ, hi⟩ := bWays_cov hm h1 h2 hw
    have hiw := bWays_isW hm h1 h2 δ hδ
    obtain ⟨f1, f2⟩ := hiw.fill h2 (noWay_ok h2)
    have et := toW_lwOf hiw
    refine ⟨lwOf m g δ, List.mem_map.mpr ⟨δ, hδ, rfl⟩, fun n => by rw [et]; exact walk_same (by omega) f1 hw f2 hi n, fun p hp hpm hs => ?_⟩
    rcases hs with hs | hs
    · rw [lwOf_get hpm, if_neg hp, (hi p _).mpr ⟨hp, hs, way_get hw hpm⟩, way_get hw hpm]; rfl
    · exact absurd hs h5
/-- what is told is seen, or there are few posts -/
theorem lawWays_told {m g : Nat} (hm : 2 ≤ m ∧ m ≤ 6) (h1 : 1 ≤ g) (h2 : g < m) {u : LW} (hu : u ∈ lawWays m g) {p : Nat} {o : Option Nat} (hp : p ≠ g) (e : u[p]? = some (some o)) : (toW u)[p]? = some o ∧ (Sees (toW u) g p ∨ m < 5) := by
  refine ⟨by rw [toW_get, e]; rfl, ?_⟩
  unfold lawWays at hu
  split at hu
  · rename_i h; exact .inr h
  · obtain ⟨δ, hδ, rfl⟩ := List.mem_map.mp hu
    have hi := bWays_isW hm h1 h2 δ hδ
    obtain ⟨f1, f2⟩ := hi.fill h2 (noWay_ok h2)
    have hpm : p < m := by have := (List.getElem?_eq_some_iff.mp e).1; rwa [lwOf_len] at this
    rw [lwOf_get hpm, if_neg hp] at e
    rw [toW_lwOf hi]
    exact .inl ((f2 p o).mp (Option.some.inj e)).2.1
theorem lawWays_len {m g : Nat} (hm : 2 ≤ m ∧ m ≤ 6) (h1 : 1 ≤ g) (h2 : g < m) : (lawWays m g).length ≤ 1000 := by
  unfold lawWays
  split
  · rename_i h
    rw [List.length_map]
    refine Nat.le_trans (cW_len m (Nat.le_refl m)) ?_
    exact Nat.le_trans (Nat.pow_le_pow_left (show m ≤ 4 by omega) m) (Nat.le_trans (Nat.pow_le_pow_right (by decide) (show m ≤ 4 by omega)) (by decide))
  · rw [List.length_map]
    exact (bWays_some ⟨m, by omega⟩ ⟨g, by omega⟩ hm.1 h1 h2).2
end HC
end
section
/-! Plain lemmas: the law's silent ones, worlds. -/
namespace HC
open PySem PySem.Spec L2 HD
def lsB : SM := (sSet 1 (eBin fAdd (eV 1) (eComp (aItems (eV 1)) (gN 3) cYes (eBin fAdd (eV 3) (eTup (aCons (eV 2) aNil))) [3])))
theorem ls_turn {p : Nat} {L : List (List Nat)} {rw : Rw} (x0 x3 : Sl) (hl : L.length ≤ 10000) (hm : ∀ Q ∈ L, Q.length ≤ 1000) :
    lsB [x0, .val (.lst (L.map dP)), .val (.int (p : Int)), x3] rw = .ok (.next, [x0, .val (.lst ((L ++ L.map (· ++ [p])).map dP)), .val (.int (p : Int)), x3], rw) := by
  have h1 : 1 ≤ sizeLine := sl_big (by decide)
  have ec := compL_mapM (tg := gN 3) (c := cYes) (e := eBin fAdd (eV 3) (eTup (aCons (eV 2) aNil))) (lw := [x0, .val (.lst (L.map dP)), .val (.int (p : Int)), .no]) (rw := rw) dP (fun Q => dP (Q ++ [p])) L fun Q hQ => ⟨[x0, .val (.lst (L.map dP)), .val (.int (p : Int)), .val (dP Q)], rfl, rfl, by
    have hle : (dNs Q).length + [D.int (p : Int)].length ≤ 100000 := by rw [dNs_len]; have := hm Q hQ; simp; omega
    have ea := fAdd_tup (dNs Q) [.int (p : Int)] hle
    have ed : dNs (Q ++ [p]) = dNs Q ++ [.int (p : Int)] := dNs_append Q [p]
    unfold dP
    simp -implicitDefEqProofs only [ed, eBin_ap, eV_ap, List.getElem?_cons_succ, List.getElem?_cons_zero, getV_val, bind_ok, eTup_ap, aCons_ap, aNil_ap, List.length_cons, List.length_nil, Nat.zero_add, h1, if_true, ofO_some, ea]⟩
  have hl1 : (L.map dP).length ≤ sizeLine := by rw [List.length_map]; exact sl_big (by omega)
  have hwp : wipeD [x0, .val (.lst (L.map dP)), .val (.int (p : Int)), x3] [3] = [x0, .val (.lst (L.map dP)), .val (.int (p : Int)), .no] := rfl
  have ea := fAdd_lst (L.map dP) (L.map fun Q => dP (Q ++ [p])) (by rw [List.length_map, List.length_map]; omega)
  rw [List.map_append, List.map_map]
  unfold lsB
  simp -implicitDefEqProofs only [sSet_ap, eBin_ap, eV_ap, List.getElem?_cons_succ, List.getElem?_cons_zero, getV_val, bind_ok, eComp_ap, aItems_ap, itemsOf_lst, ofO_some, hl1, if_true, hwp, ec, ea, List.set_cons_succ, List.set_cons_zero]
  rfl
theorem ls_loop {rw : Rw} (x0 : Sl) : ∀ (ps : List Nat) (L : List (List Nat)) (k : Nat) (x2 x3 : Sl), (∀ Q ∈ L, Q.length ≤ k) → k + ps.length ≤ 1000 → L.length * 2 ^ ps.length ≤ 10000 →
    ∃ x2', sLoop (gN 2) lsB (dNs ps) [x0, .val (.lst (L.map dP)), x2, x3] rw = .ok (.next, [x0, .val (.lst ((subs [] ps L).map dP)), x2', x3], rw)
  | [], L, k, x2, x3, _, _, _ => ⟨x2, rfl⟩
  | p :: ps, L, k, x2, x3, hk, hk2, hl => by
    rw [List.length_cons] at hk2 hl
    have hpow : 1 ≤ 2 ^ ps.length := Nat.one_le_two_pow
    rw [Nat.pow_succ] at hl
    have hll : L.length ≤ 10000 := Nat.le_trans (Nat.le_mul_of_pos_right _ (by omega)) hl
    have e1 := ls_turn (p := p) (rw := rw) x0 x3 hll (fun Q hQ => by have := hk Q hQ; omega)
    have hk' := subs_mlen [] k p L hk
    have ei : (if (p : Int) ∈ ([] : List Int) then L else L ++ L.map (· ++ [p])) = L ++ L.map (· ++ [p]) := if_neg (by simp)
    rw [ei] at hk'
    obtain ⟨x2'', e2⟩ := ls_loop (rw := rw) x0 ps (L ++ L.map (· ++ [p])) (k + 1) (.val (.int (p : Int))) x3 hk' (by omega) (by
      rw [List.length_append, List.length_map, ← Nat.mul_two, Nat.mul_assoc, Nat.mul_comm 2]; exact hl)
    refine ⟨x2'', ?_⟩
    have : dNs (p :: ps) = .int (p : Int) :: dNs ps := rfl
    rw [this, sLoop]
    simp only [gN_ap, List.set_cons_succ, List.set_cons_zero]
    rw [e1]
    simp only [bind_ok]
    rw [e2]
    have eS : subs [] (p :: ps) L = subs [] ps (if (p : Int) ∈ ([] : List Int) then L else L ++ L.map (· ++ [p])) := rfl
    rw [eS, ei]
/-- all silent sets, as the law tells them -/
def lSil (m : Nat) : List (List Nat) := subs [] (List.range' 1 (m - 1)) [[]]
theorem lSil_mem {m : Nat} {S : List Nat} : S ∈ lSil m ↔ SilOk m S := by
  unfold lSil SilOk
  rw [subs_mem]
  constructor
  · rintro ⟨Q, hQ, R, hR, hn, rfl⟩
    rw [List.mem_singleton.mp hQ, List.nil_append]
    exact hR
  · intro h
    exact ⟨[], by simp, S, h, fun p _ => by simp, by simp⟩
theorem lSil_len {m : Nat} (hm : m ≤ 6) : (lSil m).length ≤ 32 := by
  unfold lSil
  refine Nat.le_trans (subs_len _ _ _) ?_
  rw [List.length_singleton, Nat.one_mul, List.length_range']
  exact Nat.le_trans (Nat.pow_le_pow_right (by decide) (show m - 1 ≤ 5 by omega)) (by decide)
theorem law_all_silent_ok {m : Nat} {rw : Rw} (hm : 1 ≤ m ∧ m ≤ 6) : d__law_all_silent [.int (m : Int)] rw = .ok (.lst ((lSil m).map dP), rw) := by
  unfold d__law_all_silent
  rw [dDef1]
  obtain ⟨x2, e⟩ := ls_loop (rw := rw) (.val (.int (m : Int))) (List.range' 1 (m - 1)) [[]] 0 .no .no (fun Q hQ => by rw [List.mem_singleton.mp hQ]; simp) (by simp; omega) (by
    rw [List.length_range', List.length_singleton, Nat.one_mul]
    exact Nat.le_trans (Nat.pow_le_pow_right (by decide) (show m - 1 ≤ 5 by omega)) (by decide))
  have eb : b__law_all_silent = (sSeq (sSet 1 (eLst (aCons (eTup aNil) aNil))) (sSeq (sFor (aRng rng2 (aCons (eK (.int 1)) (aCons (eV 0) aNil))) (gN 2) lsB) (sRet (eV 1)))) := rfl
  have hr : rng2 [.int (1 : Int), .int (m : Int)] = some (dNs (List.range' 1 (m - 1))) := (rng2_of' (i := 1) (j := (m : Int)) (a := 1) (b := m) rfl rfl (by omega) (by omega)).trans (by rw [rangeD_dNs])
  have h1 : 1 ≤ sizeLine := sl_big (by decide)
  have hz : (0 : Nat) ≤ sizeLine := Nat.zero_le _
  have e0 : ([[]] : List (List Nat)).map dP = [.tup []] := rfl
  rw [e0] at e
  rw [eb]
  simp -implicitDefEqProofs only [List.replicate, sSeq_ap, sSet_ap, eLst_ap, aCons_ap, eTup_ap, aNil_ap, bind_ok, List.length_nil, hz, if_true, ofO_some, List.length_cons, Nat.zero_add, h1, List.set_cons_succ, List.set_cons_zero, seqK_next, sFor_ap, aRng_ap, eK_ap, eV_ap, List.getElem?_cons_succ, List.getElem?_cons_zero, getV_val, hr, e, sRet_ap, dFin_ret]
  rfl
/-! ### worlds -/
def dLWs (l : List LW) : D := .lst (l.map dLW)
abbrev LWd : Type := List Nat × List (List LW)
def dLWd (x : LWd) : D := .tup [dP x.1, .lst (x.2.map dLWs)]
def lwC (W : Web) (S : List Nat) (g : Nat) (u : LW) : Bool := eqDs (ansL S (toW u) g (2 * W.many)) (ansL W.silent (wayOf W g) g (2 * W.many))
def lawGood (W : Web) (S : List Nat) (g : Nat) : List LW := (lawWays W.many g).filter (lwC W S g)
def lawSome (W : Web) (S : List Nat) : List (List LW) := (List.range' 1 (W.many - 1)).map (lawGood W S)
def lawWorldB (x : LWd) : Bool := x.2.all fun l => !l.isEmpty
def lawWorlds (W : Web) : List LWd := ((lSil W.many).map fun S => (S, lawSome W S)).filter lawWorldB
def lgB : SM := (sIf (toB (eBin fEq (eCall d__law_told (aCons (eV 3) (aCons (eV 8) (aCons (eV 5) (aCons (eK (.int 1)) aNil))))) (eBin fIx (eV 6) (eK (.int 0))))) (sIf (toB (eBin fEq (eComp (aRng rng1 (aCons (eBin fMul (eK (.int 2)) (eV 1)) aNil)) (gN 9) cYes (eCall d__law_told (aCons (eV 3) (aCons (eV 8) (aCons (eV 5) (aCons (eBin fAdd (eV 9) (eK (.int 1))) aNil))))) [9]) (eV 6))) (sMut "list" 7 fAppend (aCons (eV 8) aNil)) sNext) sNext)
theorem fEq_ansM (S T : List Nat) (g h : Nat) (o p : Option Nat) : fEq (ansM S g o) (ansM T h p) = some (.bl (eqD (ansM S g o) (ansM T h p))) := by
  unfold fEq
  rw [if_pos ⟨fit_ansM 7 _ _ _, fit_ansM 7 _ _ _⟩]
theorem fEq_ansL (S T : List Nat) (w v : List (Option Nat)) (g h n m : Nat) : fEq (.lst (ansL S w g n)) (.lst (ansL T v h m)) = some (.bl (eqDs (ansL S w g n) (ansL T v h m))) := by
  unfold fEq
  rw [if_pos ⟨fit_ansL 6 _ _ _ _, fit_ansL 6 _ _ _ _⟩, eqD_lst]
theorem ansL_cons (S : List Nat) (w : List (Option Nat)) (g n : Nat) : ansL S w g (n + 1) = ansM S g (posM w g 1) :: (List.range' 1 n).map fun h => ansM S g (posM w g (h + 1)) := by
  unfold ansL
  rw [List.range'_succ]
  rfl
theorem lg_turn {W : Web} {S : List Nat} {g : Nat} {u : LW} {rw : Rw} (h : WebOk W) (hu : LWOk W.many g u) (h1 : 1 ≤ g) (h2 : g < W.many) (ds : List D) (hd : ds.length ≤ 10000) (x0 x2 x4 x9 : Sl) :
    lgB [x0, .val (.int (W.many : Int)), x2, .val (dP S), x4, .val (.int (g : Int)), .val (.lst (ansL W.silent (wayOf W g) g (2 * W.many))), .own (.lst ds), .val (dLW u), x9] rw =
      .ok (.next, [x0, .val (.int (W.many : Int)), x2, .val (dP S), x4, .val (.int (g : Int)), .val (.lst (ansL W.silent (wayOf W g) g (2 * W.many))), .own (.lst (ds ++ if lwC W S g u = true then [dLW u] else [])), .val (dLW u), x9], rw) := by
  have hlo := h.lo
  have hhi := h.hi
  have e1 := law_told_ok (n := 1) (S := S) (rw := rw) hu hhi h1 h2 (by omega)
  have e1' : d__law_told [dP S, dLW u, .int (g : Int), .int 1] rw = .ok (ansM S g (posM (toW u) g 1), rw) := e1
  have ec := fun A : Sl => compL_mapM (tg := gN 9) (c := cYes) (e := (eCall d__law_told (aCons (eV 3) (aCons (eV 8) (aCons (eV 5) (aCons (eBin fAdd (eV 9) (eK (.int 1))) aNil)))))) (lw := [x0, .val (.int (W.many : Int)), x2, .val (dP S), x4, .val (.int (g : Int)), A, .own (.lst ds), .val (dLW u), .no]) (rw := rw) (fun (n : Nat) => D.int (n : Int)) (fun k => ansM S g (posM (toW u) g (k + 1))) (List.range' 0 (2 * W.many)) fun k hk => ⟨[x0, .val (.int (W.many : Int)), x2, .val (dP S), x4, .val (.int (g : Int)), A, .own (.lst ds), .val (dLW u), .val (.int (k : Int))], rfl, rfl, by
    have hk' := List.mem_range'_1.mp hk
    have et := law_told_ok (n := k + 1) (S := S) (rw := rw) hu hhi h1 h2 (by omega)
    have ek : (k : Int) + 1 = ((k + 1 : Nat) : Int) := by omega
    simp -implicitDefEqProofs only [eCall_ap, aCons_ap, aNil_ap, eBin_ap, eV_ap, eK_ap, List.getElem?_cons_succ, List.getElem?_cons_zero, getV_val, bind_ok, fAdd_int, ofO_some, ek, et]⟩
  have ea : (List.range' 0 (2 * W.many)).map (fun k => ansM S g (posM (toW u) g (k + 1))) = ansL S (toW u) g (2 * W.many) := rfl
  rw [ea] at ec
  have hr : rng1 [.int (2 * (W.many : Int))] = some (dNs (List.range' 0 (2 * W.many))) := by
    rw [rng1_of' (n := 2 * W.many) (by omega) (by omega)]
    have := rangeD_dNs 0 (2 * W.many)
    rw [show ((0 : Nat) : Int) = 0 from rfl] at this
    rw [this]
  have hrl : (dNs (List.range' 0 (2 * W.many))).length ≤ sizeLine := sl_big (by rw [dNs_len, List.length_range']; omega)
  have hmul : fMul (.int 2) (.int (W.many : Int)) = some (.int (2 * (W.many : Int))) := by rw [fMul_int, if_pos (by omega)]
  have hel := fEq_ansL S W.silent (toW u) (wayOf W g) g g (2 * W.many) (2 * W.many)
  obtain ⟨n, hn⟩ : ∃ n, 2 * W.many = n + 1 := ⟨2 * W.many - 1, by omega⟩
  have h0 : L2.atI (ansL W.silent (wayOf W g) g (2 * W.many)) 0 = some (ansM W.silent g (posM (wayOf W g) g 1)) := by rw [hn, ansL_cons]; exact atI_zero _ _
  have he0 := fEq_ansM S W.silent g g (posM (toW u) g 1) (posM (wayOf W g) g 1)
  have hl1 : ds.length < sizeLine := sl_lt (by omega)
  have hcf : eqD (ansM S g (posM (toW u) g 1)) (ansM W.silent g (posM (wayOf W g) g 1)) = false → lwC W S g u = false := fun e => by
    unfold lwC
    rw [hn, ansL_cons, ansL_cons, eqDs_cons, e]; rfl
  have hcc : eqDs (ansL S (toW u) g (2 * W.many)) (ansL W.silent (wayOf W g) g (2 * W.many)) = lwC W S g u := rfl
  rw [hcc] at hel
  have hwp : ∀ A : Sl, wipeD [x0, .val (.int (W.many : Int)), x2, .val (dP S), x4, .val (.int (g : Int)), A, .own (.lst ds), .val (dLW u), x9] [9] = [x0, .val (.int (W.many : Int)), x2, .val (dP S), x4, .val (.int (g : Int)), A, .own (.lst ds), .val (dLW u), .no] := fun A => rfl
  generalize ansL W.silent (wayOf W g) g (2 * W.many) = A at *
  generalize hB : ansL S (toW u) g (2 * W.many) = B at *
  generalize dLW u = U at *
  generalize dP S = PS at *
  generalize hc0 : eqD (ansM S g (posM (toW u) g 1)) (ansM W.silent g (posM (wayOf W g) g 1)) = c0 at *
  generalize lwC W S g u = c1 at *
  unfold lgB
  unfold dNs at hr hrl
  cases c0 with
  | false =>
    have hc1 : c1 = false := hcf rfl
    subst hc1
    simp -implicitDefEqProofs only [sIf_ap, toB_ap, eBin_ap, eCall_ap, aCons_ap, aNil_ap, eV_ap, eK_ap, List.getElem?_cons_succ, List.getElem?_cons_zero, getV_val, bind_ok, e1', fIx_lst, h0, ofO_some, he0, toBK_bl, Bool.false_eq_true, if_false, sNext_ap, List.append_nil]
  | true =>
    cases c1 with
    | false =>
      simp -implicitDefEqProofs only [sIf_ap, toB_ap, eBin_ap, eCall_ap, aCons_ap, aNil_ap, eV_ap, eK_ap, List.getElem?_cons_succ, List.getElem?_cons_zero, getV_val, bind_ok, e1', fIx_lst, h0, ofO_some, he0, toBK_bl, if_true, eComp_ap, aRng_ap, hmul, hr, hrl, hwp, ec, hel, Bool.false_eq_true, if_false, sNext_ap, List.append_nil]
    | true =>
      simp -implicitDefEqProofs only [sIf_ap, toB_ap, eBin_ap, eCall_ap, aCons_ap, aNil_ap, eV_ap, eK_ap, List.getElem?_cons_succ, List.getElem?_cons_zero, getV_val, bind_ok, e1', fIx_lst, h0, ofO_some, he0, toBK_bl, if_true, eComp_ap, aRng_ap, hmul, hr, hrl, hwp, ec, hel, sMut_ap, tyD_lst, fAppend_lst, hl1, noX_ok, List.set_cons_succ, List.set_cons_zero]
theorem lg_loop {W : Web} {S : List Nat} {g : Nat} {rw : Rw} (h : WebOk W) (h1 : 1 ≤ g) (h2 : g < W.many) (x0 x2 x4 x9 : Sl) : ∀ (us : List LW) (ds : List D) (x8 : Sl), (∀ u ∈ us, LWOk W.many g u) → ds.length + us.length ≤ 10000 →
    ∃ x8', sLoop (gN 8) lgB (us.map dLW) [x0, .val (.int (W.many : Int)), x2, .val (dP S), x4, .val (.int (g : Int)), .val (.lst (ansL W.silent (wayOf W g) g (2 * W.many))), .own (.lst ds), x8, x9] rw =
      .ok (.next, [x0, .val (.int (W.many : Int)), x2, .val (dP S), x4, .val (.int (g : Int)), .val (.lst (ansL W.silent (wayOf W g) g (2 * W.many))), .own (.lst (ds ++ (us.filter (lwC W S g)).map dLW)), x8', x9], rw)
  | [], ds, x8, _, _ => ⟨x8, by simp [sLoop]⟩
  | u :: us, ds, x8, hu, hl => by
    rw [List.length_cons] at hl
    have e1 := lg_turn (S := S) (rw := rw) h (hu u List.mem_cons_self) h1 h2 ds (by omega) x0 x2 x4 x9
    have hle : (if lwC W S g u = true then [dLW u] else []).length ≤ 1 := by split <;> simp
    obtain ⟨x8', e2⟩ := lg_loop (S := S) (rw := rw) h h1 h2 x0 x2 x4 x9 us (ds ++ if lwC W S g u = true then [dLW u] else []) (.val (dLW u)) (fun v hv => hu v (List.mem_cons_of_mem _ hv)) (by rw [List.length_append]; omega)
    refine ⟨x8', ?_⟩
    rw [List.map_cons, sLoop]
    simp only [gN_ap, List.set_cons_succ, List.set_cons_zero]
    rw [e1]
    simp only [bind_ok]
    rw [e2]
    have : ds ++ ((u :: us).filter (lwC W S g)).map dLW = (ds ++ if lwC W S g u = true then [dLW u] else []) ++ (us.filter (lwC W S g)).map dLW := by
      rw [List.filter_cons]
      cases lwC W S g u <;> simp
    rw [this]
def lwGo : SM := (sSeq (sSet 6 (eCall d__law_answers (aCons (eV 0) (aCons (eV 5) (aCons (eBin fMul (eK (.int 2)) (eV 1)) aNil))))) (sSeq (sSetO 7 (eLst aNil)) (sSeq (sFor (aItems (eCall d__law_some_ways (aCons (eV 1) (aCons (eV 5) aNil)))) (gN 8) lgB) (sSeq (sFrz 7) (sMut "list" 4 fAppend (aCons (eV 7) aNil))))))
theorem lwGo_turn {W : Web} {S : List Nat} {g : Nat} {rw : Rw} (h : WebOk W) (h1 : 1 ≤ g) (h2 : g < W.many) (ds : List D) (hd : ds.length ≤ 10000) (x2 x6 x7 x8 x9 : Sl) :
    ∃ x6' x7' x8' x9', lwGo [.val (dWeb W), .val (.int (W.many : Int)), x2, .val (dP S), .own (.lst ds), .val (.int (g : Int)), x6, x7, x8, x9] rw =
      .ok (.next, [.val (dWeb W), .val (.int (W.many : Int)), x2, .val (dP S), .own (.lst (ds ++ [dLWs (lawGood W S g)])), .val (.int (g : Int)), x6', x7', x8', x9'], rw) := by
  have hlo := h.lo
  have hhi := h.hi
  have ea := law_answers_ok (n := 2 * W.many) (rw := rw) h (wayOf_at h h1 h2) (by omega)
  have es := some_ways_ok (rw := rw) ⟨hlo, hhi⟩ h1 h2
  have hmul : fMul (.int 2) (.int (W.many : Int)) = some (.int ((2 * W.many : Nat) : Int)) := by
    rw [fMul_int, if_pos (by omega)]
    congr 2
  have hwl := lawWays_len ⟨hlo, hhi⟩ h1 h2
  obtain ⟨x8', e⟩ := lg_loop (S := S) (rw := rw) h h1 h2 (.val (dWeb W)) x2 (.own (.lst ds)) x9 (lawWays W.many g) [] x8 (lawWays_ok ⟨hlo, hhi⟩ h1 h2) (by rw [List.length_nil]; omega)
  rw [List.nil_append] at e
  have eg : D.lst (((lawWays W.many g).filter (lwC W S g)).map dLW) = dLWs (lawGood W S g) := rfl
  rw [eg] at e
  have hz : (0 : Nat) ≤ sizeLine := Nat.zero_le _
  have hl1 : ds.length < sizeLine := sl_lt (by omega)
  generalize dWeb W = DW at *
  refine ⟨.val (.lst (ansL W.silent (wayOf W g) g (2 * W.many))), .val (dLWs (lawGood W S g)), x8', x9, ?_⟩
  generalize ansL W.silent (wayOf W g) g (2 * W.many) = A at *
  generalize dLWs (lawGood W S g) = G at *
  unfold lwGo
  simp -implicitDefEqProofs only [sSeq_ap, sSet_ap, eCall_ap, aCons_ap, aNil_ap, eV_ap, eBin_ap, eK_ap, List.getElem?_cons_succ, List.getElem?_cons_zero, getV_val, bind_ok, hmul, ofO_some, ea, List.set_cons_succ, List.set_cons_zero, seqK_next, sSetO_ap, eLst_ap, List.length_nil, hz, if_true, sFor_ap, aItems_ap, es, itemsOf_lst, e, sFrz_ap, sMut_ap, tyD_lst, fAppend_lst, hl1, noX_ok]
theorem lwGo_loop {W : Web} {S : List Nat} {rw : Rw} (h : WebOk W) (x2 : Sl) : ∀ (gs : List Nat) (ds : List D) (x5 x6 x7 x8 x9 : Sl), (∀ g ∈ gs, 1 ≤ g ∧ g < W.many) → ds.length + gs.length ≤ 10000 →
    ∃ x5' x6' x7' x8' x9', sLoop (gN 5) lwGo (dNs gs) [.val (dWeb W), .val (.int (W.many : Int)), x2, .val (dP S), .own (.lst ds), x5, x6, x7, x8, x9] rw =
      .ok (.next, [.val (dWeb W), .val (.int (W.many : Int)), x2, .val (dP S), .own (.lst (ds ++ gs.map fun g => dLWs (lawGood W S g))), x5', x6', x7', x8', x9'], rw)
  | [], ds, x5, x6, x7, x8, x9, _, _ => ⟨x5, x6, x7, x8, x9, by simp [sLoop, dNs]⟩
  | g :: gs, ds, x5, x6, x7, x8, x9, hg, hl => by
    rw [List.length_cons] at hl
    obtain ⟨y6, y7, y8, y9, e1⟩ := lwGo_turn (S := S) (rw := rw) h (hg g List.mem_cons_self).1 (hg g List.mem_cons_self).2 ds (by omega) x2 x6 x7 x8 x9
    obtain ⟨x5', x6', x7', x8', x9', e2⟩ := lwGo_loop (S := S) (rw := rw) h x2 gs (ds ++ [dLWs (lawGood W S g)]) (.val (.int (g : Int))) y6 y7 y8 y9 (fun k hk => hg k (List.mem_cons_of_mem _ hk)) (by rw [List.length_append, List.length_singleton]; omega)
    refine ⟨x5', x6', x7', x8', x9', ?_⟩
    have : dNs (g :: gs) = .int (g : Int) :: dNs gs := rfl
    rw [this, sLoop]
    simp only [gN_ap, List.set_cons_succ, List.set_cons_zero]
    rw [e1]
    simp only [bind_ok]
    rw [e2, List.append_assoc]
    rfl
def lwS : SM := (sSeq (sSetO 4 (eLst aNil)) (sSeq (sFor (aRng rng2 (aCons (eK (.int 1)) (aCons (eV 1) aNil))) (gN 5) lwGo) (sIf (tBor 4 (toB (eBin fNotInN (eLst aNil) (eV 4)))) (sSeq (sFrz 4) (sMut "list" 2 fAppend (aCons (eTup (aCons (eV 3) (aCons (eV 4) aNil))) aNil))) sNext)))
theorem notIn_dLWs (L : List (List LW)) : fNotInN (.lst []) (.lst (L.map dLWs)) = some (.bl (L.all fun l => !l.isEmpty)) := by
  have h1 : (L.map dLWs).all isLstD = true := by
    rw [List.all_eq_true]; intro d hd; obtain ⟨l, _, rfl⟩ := List.mem_map.mp hd; rfl
  have h2 : (!(L.map dLWs).any isNilD) = L.all fun l => !l.isEmpty := by
    rw [List.any_map, List.not_any_eq_all_not]
    congr 1
    funext l
    cases l <;> rfl
  unfold fNotInN
  dsimp only
  rw [if_pos h1, h2]
theorem lwS_turn {W : Web} {S : List Nat} {rw : Rw} (h : WebOk W) (L : List LWd) (hL : L.length ≤ 10000) (x4 x5 x6 x7 x8 x9 : Sl) :
    ∃ x4' x5' x6' x7' x8' x9', lwS [.val (dWeb W), .val (.int (W.many : Int)), .own (.lst (L.map dLWd)), .val (dP S), x4, x5, x6, x7, x8, x9] rw =
      .ok (.next, [.val (dWeb W), .val (.int (W.many : Int)), .own (.lst ((L ++ [(S, lawSome W S)].filter lawWorldB).map dLWd)), .val (dP S), x4', x5', x6', x7', x8', x9'], rw) := by
  have hlo := h.lo
  have hhi := h.hi
  obtain ⟨y5, y6, y7, y8, y9, e⟩ := lwGo_loop (S := S) (rw := rw) h (.own (.lst (L.map dLWd))) (List.range' 1 (W.many - 1)) [] x5 x6 x7 x8 x9 (fun g hg => by have := List.mem_range'_1.mp hg; omega) (by rw [List.length_range', List.length_nil]; omega)
  rw [List.nil_append] at e
  have es : (List.range' 1 (W.many - 1)).map (fun g => dLWs (lawGood W S g)) = (lawSome W S).map dLWs := by unfold lawSome; rw [List.map_map]; rfl
  rw [es] at e
  have hr : rng2 [.int (1 : Int), .int (W.many : Int)] = some (dNs (List.range' 1 (W.many - 1))) := (rng2_of' (i := 1) (j := (W.many : Int)) (a := 1) (b := W.many) rfl rfl (by omega) (by omega)).trans (by rw [rangeD_dNs])
  have e2 := notIn_dLWs (lawSome W S)
  have hb : lawWorldB (S, lawSome W S) = (lawSome W S).all fun l => !l.isEmpty := rfl
  rw [← hb] at e2
  have ed : dLWd (S, lawSome W S) = .tup [dP S, .lst ((lawSome W S).map dLWs)] := rfl
  have hz : (0 : Nat) ≤ sizeLine := Nat.zero_le _
  have h2s : 2 ≤ sizeLine := sl_big (by decide)
  have hl1 : (L.map dLWd).length < sizeLine := by rw [List.length_map]; exact sl_lt (by omega)
  generalize dWeb W = DW at *
  rw [List.filter_cons]
  unfold lwS
  cases q : lawWorldB (S, lawSome W S) with
  | true =>
    rw [q] at e2
    refine ⟨.val (.lst ((lawSome W S).map dLWs)), y5, y6, y7, y8, y9, ?_⟩
    generalize (lawSome W S).map dLWs = LS at *
    simp -implicitDefEqProofs only [sSeq_ap, sSetO_ap, eLst_ap, aNil_ap, bind_ok, List.length_nil, hz, if_true, ofO_some, List.set_cons_succ, List.set_cons_zero, seqK_next, sFor_ap, aRng_ap, aCons_ap, eK_ap, eV_ap, List.getElem?_cons_succ, List.getElem?_cons_zero, getV_val, hr, e, sIf_ap, tBor_ap, toB_ap, eBin_ap, e2, toBK_bl, noX_ok, sFrz_ap, sMut_ap, tyD_lst, eTup_ap, List.length_cons, Nat.zero_add, Nat.reduceAdd, h2s, fAppend_lst, hl1, List.filter_nil, List.map_append, List.map_cons, List.map_nil, ed]
  | false =>
    rw [q] at e2
    refine ⟨.own (.lst ((lawSome W S).map dLWs)), y5, y6, y7, y8, y9, ?_⟩
    generalize (lawSome W S).map dLWs = LS at *
    simp -implicitDefEqProofs only [sSeq_ap, sSetO_ap, eLst_ap, aNil_ap, bind_ok, List.length_nil, hz, if_true, ofO_some, List.set_cons_succ, List.set_cons_zero, seqK_next, sFor_ap, aRng_ap, aCons_ap, eK_ap, eV_ap, List.getElem?_cons_succ, List.getElem?_cons_zero, getV_val, hr, e, sIf_ap, tBor_ap, toB_ap, eBin_ap, e2, toBK_bl, noX_ok, Bool.false_eq_true, if_false, sNext_ap, List.filter_nil, List.append_nil]
theorem lwS_loop {W : Web} {rw : Rw} (h : WebOk W) : ∀ (Ss : List (List Nat)) (L : List LWd) (x3 x4 x5 x6 x7 x8 x9 : Sl), L.length + Ss.length ≤ 10000 →
    ∃ x3' x4' x5' x6' x7' x8' x9', sLoop (gN 3) lwS (Ss.map dP) [.val (dWeb W), .val (.int (W.many : Int)), .own (.lst (L.map dLWd)), x3, x4, x5, x6, x7, x8, x9] rw =
      .ok (.next, [.val (dWeb W), .val (.int (W.many : Int)), .own (.lst ((L ++ (Ss.map fun S => (S, lawSome W S)).filter lawWorldB).map dLWd)), x3', x4', x5', x6', x7', x8', x9'], rw)
  | [], L, x3, x4, x5, x6, x7, x8, x9, _ => ⟨x3, x4, x5, x6, x7, x8, x9, by simp [sLoop]⟩
  | S :: Ss, L, x3, x4, x5, x6, x7, x8, x9, hl => by
    rw [List.length_cons] at hl
    obtain ⟨y4, y5, y6, y7, y8, y9, e1⟩ := lwS_turn (S := S) (rw := rw) h L (by omega) x4 x5 x6 x7 x8 x9
    have hle : ([(S, lawSome W S)].filter lawWorldB).length ≤ 1 := Nat.le_trans (List.length_filter_le _ _) (by simp)
    obtain ⟨z3, z4, z5, z6, z7, z8, z9, e2⟩ := lwS_loop (rw := rw) h Ss (L ++ [(S, lawSome W S)].filter lawWorldB) (.val (dP S)) y4 y5 y6 y7 y8 y9 (by rw [List.length_append]; omega)
    refine ⟨z3, z4, z5, z6, z7, z8, z9, ?_⟩
    rw [List.map_cons, sLoop]
    simp only [gN_ap, List.set_cons_succ, List.set_cons_zero]
    rw [e1]
    simp only [bind_ok]
    rw [e2]
    have : L ++ ((S :: Ss).map fun S => (S, lawSome W S)).filter lawWorldB = L ++ [(S, lawSome W S)].filter lawWorldB ++ (Ss.map fun S => (S, lawSome W S)).filter lawWorldB := by
      rw [List.append_assoc, ← List.filter_append]; rfl
    rw [this]
theorem law_worlds_ok {W : Web} {rw : Rw} (h : WebOk W) : d__law_worlds [dWeb W] rw = .ok (.lst ((lawWorlds W).map dLWd), rw) := by
  have hlo := h.lo
  have hhi := h.hi
  have eb : b__law_worlds = (sSeq (sSet 1 (eBin fIx (eV 0) (eK (.int 0)))) (sSeq (sSetO 2 (eLst aNil)) (sSeq (sFor (aItems (eCall d__law_all_silent (aCons (eV 1) aNil))) (gN 3) lwS) (sRetV 2)))) := rfl
  have es := law_all_silent_ok (m := W.many) (rw := rw) ⟨by omega, hhi⟩
  have hsl := lSil_len hhi
  obtain ⟨z3, z4, z5, z6, z7, z8, z9, e⟩ := lwS_loop (rw := rw) h (lSil W.many) [] .no .no .no .no .no .no .no (by rw [List.length_nil]; omega)
  have ew : ([] : List LWd) ++ ((lSil W.many).map fun S => (S, lawSome W S)).filter lawWorldB = lawWorlds W := rfl
  rw [ew, List.map_nil] at e
  have i0 := ix0 W
  have hz : (0 : Nat) ≤ sizeLine := Nat.zero_le _
  unfold d__law_worlds
  rw [dDef1, eb]
  generalize dWeb W = DW at *
  simp -implicitDefEqProofs only [List.replicate, sSeq_ap, sSet_ap, eBin_ap, eV_ap, eK_ap, List.getElem?_cons_succ, List.getElem?_cons_zero, getV_val, bind_ok, i0, ofO_some, List.set_cons_succ, List.set_cons_zero, seqK_next, sSetO_ap, eLst_ap, aNil_ap, List.length_nil, hz, if_true, sFor_ap, aItems_ap, eCall_ap, aCons_ap, es, itemsOf_lst, e, sRetV_ap, dFin_ret]
end HC
end
section
/-! Plain lemmas: the law's known, webs, twins. -/
namespace HC
open PySem PySem.Spec L2 HD
/-! ### known -/
def nextsQ (W : Web) (p g : Nat) : List (Option (Option Nat)) := (lawWorlds W).flatMap fun x => ((x.2[g - 1]?).getD []).map fun u => (u[p]?).getD none
def lkB (W : Web) (p g : Nat) : Bool := !decide (p = g) && ((nextsQ W p g).all (·.isSome) && (nextsQ W p g).all fun q => decide (q = (nextsQ W p g).headD none))
def lkD' (W : Web) (p g : Nat) : D := .tup [.int (p : Int), .int (g : Int), dQ ((nextsQ W p g).headD none)]
def lkP (W : Web) (p : Nat) : List D := ((List.range' 1 (W.many - 1)).filter (lkB W p)).map (lkD' W p)
def lawKnown (W : Web) : List D := (List.range' 0 W.many).flatMap (lkP W)
theorem fit_dQ (n : Nat) (q : Option (Option Nat)) : fit n (dQ q) = true := by
  cases q with
  | none => show fit n (.str "?") = true; rw [fit_str]; decide +kernel
  | some o => exact fit_dO n o
theorem eqD_dQ (a b : Option (Option Nat)) : eqD (dQ a) (dQ b) = decide (a = b) := by
  cases a with
  | none => cases b with
    | none => show eqD (.str "?") (.str "?") = _; simp
    | some o => cases o with
      | none => show eqD (.str "?") .non = _; simp
      | some v => show eqD (.str "?") (.int (v : Int)) = _; simp
  | some o => cases b with
    | none => cases o with
      | none => show eqD .non (.str "?") = _; simp
      | some v => show eqD (.int (v : Int)) (.str "?") = _; simp
    | some o' =>
      show eqD (dO o) (dO o') = _
      rw [eqD_dOO]
      by_cases h : o = o' <;> simp [h]
theorem fNe_dQ (a b : Option (Option Nat)) : fNe (dQ a) (dQ b) = some (.bl (!decide (a = b))) := by
  unfold fNe
  rw [if_pos ⟨fit_dQ 8 a, fit_dQ 8 b⟩, eqD_dQ]
theorem isSc_dQ (q : Option (Option Nat)) : isSc (dQ q) = true := by
  cases q with
  | none => rfl
  | some o => cases o <;> rfl
theorem flat_dQ (qs : List (Option (Option Nat))) : (qs.map dQ).all flatD = true := by
  rw [List.all_eq_true]
  intro d hd
  obtain ⟨q, _, rfl⟩ := List.mem_map.mp hd
  cases q with
  | none => rfl
  | some o => cases o <;> rfl
theorem mark_in (qs : List (Option (Option Nat))) : fIn true (.str "?") (.lst (qs.map dQ)) = some (.bl (qs.all (·.isSome))) := by
  unfold fIn fInF seqOf
  simp only [flat_dQ, show flatD (.str "?") = true from rfl, and_self, if_true]
  congr 2
  rw [List.any_map, List.not_any_eq_all_not]
  congr 1
  funext q
  cases q with
  | none => show (!(eqF (.str "?") (.str "?"))) = _; simp [eqF]
  | some o => cases o <;> rfl
theorem dQ_getD (u : LW) (p : Nat) (h : p < u.length) : L2.atI (u.map dQ) (p : Int) = some (dQ ((u[p]?).getD none)) := by
  rw [atI_nat_eq, List.getElem?_map, List.getElem?_eq_getElem h]; rfl
def lkN : SM := (sMut "list" 5 fExtend (aCons (eComp (aItems (eBin fIx (eV 7) (eBin fSub (eV 4) (eK (.int 1))))) (gN 8) cYes (eBin fIx (eV 8) (eV 3)) [8]) aNil))
structure LWdOk (m : Nat) (x : LWd) : Prop where
  len : x.2.length = m - 1
  few : ∀ (k : Nat) (l : List LW), x.2[k]? = some l → l.length ≤ 1000 ∧ ∀ u ∈ l, u.length = m
theorem lkN_turn {m p g : Nat} {x : LWd} {rw : Rw} (hx : LWdOk m x) (hp : p < m) (h1 : 1 ≤ g) (h2 : g < m) (ds : List D) (hd : ds.length ≤ 90000) (x0 x1 x2 x6 x8 x9 : Sl) :
    lkN [x0, x1, x2, .val (.int (p : Int)), .val (.int (g : Int)), .own (.lst ds), x6, .val (.lst (x.2.map dLWs)), x8, x9] rw =
      .ok (.next, [x0, x1, x2, .val (.int (p : Int)), .val (.int (g : Int)), .own (.lst (ds ++ (((x.2[g - 1]?).getD []).map fun u => (u[p]?).getD none).map dQ)), x6, .val (.lst (x.2.map dLWs)), x8, x9], rw) := by
  have hgl : g - 1 < x.2.length := by have := hx.len; omega
  have gk : x.2[g - 1]? = some x.2[g - 1] := List.getElem?_eq_getElem hgl
  obtain ⟨f1, f2⟩ := hx.few _ _ gk
  have e1 : L2.atI (x.2.map dLWs) ((g : Int) - 1) = some (.lst (x.2[g - 1].map dLW)) := by
    rw [show ((g : Int) - 1) = ((g - 1 : Nat) : Int) by omega, atI_nat_eq, List.getElem?_map, gk]; rfl
  have ec := compL_mapM (tg := gN 8) (c := cYes) (e := eBin fIx (eV 8) (eV 3)) (lw := [x0, x1, x2, .val (.int (p : Int)), .val (.int (g : Int)), .own (.lst ds), x6, .val (.lst (x.2.map dLWs)), .no, x9]) (rw := rw) dLW (fun u => dQ ((u[p]?).getD none)) x.2[g - 1] fun u hu => ⟨[x0, x1, x2, .val (.int (p : Int)), .val (.int (g : Int)), .own (.lst ds), x6, .val (.lst (x.2.map dLWs)), .val (dLW u), x9], rfl, rfl, by
    have eg := dQ_getD u p (by rw [f2 u hu]; exact hp)
    unfold dLW
    simp -implicitDefEqProofs only [eBin_ap, eV_ap, List.getElem?_cons_succ, List.getElem?_cons_zero, getV_val, bind_ok, fIx_tup, eg, ofO_some]⟩
  have ee := fExtend_lst ds (x.2[g - 1].map fun u => dQ ((u[p]?).getD none)) (by rw [List.length_map]; omega)
  have hl1 : (x.2[g - 1].map dLW).length ≤ sizeLine := by rw [List.length_map]; exact sl_big (by omega)
  have hwp : wipeD [x0, x1, x2, .val (.int (p : Int)), .val (.int (g : Int)), .own (.lst ds), x6, .val (.lst (x.2.map dLWs)), x8, x9] [8] = [x0, x1, x2, .val (.int (p : Int)), .val (.int (g : Int)), .own (.lst ds), x6, .val (.lst (x.2.map dLWs)), .no, x9] := rfl
  have em : (((x.2[g - 1]?).getD []).map fun u => (u[p]?).getD none).map dQ = x.2[g - 1].map fun u => dQ ((u[p]?).getD none) := by rw [gk, Option.getD_some, List.map_map]; rfl
  rw [em]
  unfold lkN
  simp -implicitDefEqProofs only [sMut_ap, List.getElem?_cons_succ, List.getElem?_cons_zero, tyD_lst, if_true, aCons_ap, aNil_ap, eComp_ap, aItems_ap, eBin_ap, eV_ap, eK_ap, getV_val, bind_ok, fSub_int, ofO_some, fIx_lst, e1, itemsOf_lst, hl1, hwp, ec, noX_ok, ee, List.set_cons_succ, List.set_cons_zero]
theorem lkN_loop {m p g : Nat} {rw : Rw} (hp : p < m) (h1 : 1 ≤ g) (h2 : g < m) (x0 x1 x2 x8 x9 : Sl) : ∀ (xs : List LWd) (qs : List (Option (Option Nat))) (x6 x7 : Sl), (∀ x ∈ xs, LWdOk m x) → qs.length + xs.length * 1000 ≤ 90000 →
    ∃ x6' x7', sLoop (gT 2 (gsCons (gN 6) (gsCons (gN 7) gsNil))) lkN (xs.map dLWd) [x0, x1, x2, .val (.int (p : Int)), .val (.int (g : Int)), .own (.lst (qs.map dQ)), x6, x7, x8, x9] rw =
      .ok (.next, [x0, x1, x2, .val (.int (p : Int)), .val (.int (g : Int)), .own (.lst ((qs ++ xs.flatMap fun x => ((x.2[g - 1]?).getD []).map fun u => (u[p]?).getD none).map dQ)), x6', x7', x8, x9], rw)
  | [], qs, x6, x7, _, _ => ⟨x6, x7, by simp [sLoop]⟩
  | x :: xs, qs, x6, x7, hx, hl => by
    rw [List.length_cons, Nat.succ_mul] at hl
    have hx0 := hx x List.mem_cons_self
    have e1 := lkN_turn (rw := rw) hx0 hp h1 h2 (qs.map dQ) (by rw [List.length_map]; omega) x0 x1 x2 (.val (dP x.1)) x8 x9
    have hlen : (((x.2[g - 1]?).getD []).map fun u => (u[p]?).getD none).length ≤ 1000 := by
      have hgl : g - 1 < x.2.length := by have := hx0.len; omega
      have gk : x.2[g - 1]? = some x.2[g - 1] := List.getElem?_eq_getElem hgl
      rw [gk, List.length_map]
      exact (hx0.few _ _ gk).1
    obtain ⟨x6', x7', e2⟩ := lkN_loop (rw := rw) hp h1 h2 x0 x1 x2 x8 x9 xs (qs ++ ((x.2[g - 1]?).getD []).map fun u => (u[p]?).getD none) (.val (dP x.1)) (.val (.lst (x.2.map dLWs))) (fun y hy => hx y (List.mem_cons_of_mem _ hy)) (by rw [List.length_append]; omega)
    refine ⟨x6', x7', ?_⟩
    rw [List.map_cons, sLoop]
    have ed : dLWd x = .tup [dP x.1, .lst (x.2.map dLWs)] := rfl
    have h2l : ([dP x.1, D.lst (x.2.map dLWs)] : List D).length = 2 := rfl
    rw [ed]
    simp only [gT_ap, h2l, if_true, gsCons_ap, gN_ap, gsNil_ap, Option.bind_some, List.set_cons_succ, List.set_cons_zero]
    rw [e1]
    simp only [bind_ok]
    rw [List.map_append] at e2
    rw [e2, List.flatMap_cons, List.append_assoc]
def lkT : EM Bool := (tAnd' (toB (eBin fNe (eV 3) (eV 4))) (tAnd' (tBor 5 (toB (eBin (fIn true) (eK (.str "?")) (eV 5)))) (tBor 5 (toB (eBin fEq (eComp (aItems (eV 5)) (gN 9) (toB (eBin fNe (eV 9) (eBin fIx (eV 5) (eK (.int 0))))) (eV 9) [9]) (eLst aNil))))))
def lkG : SM := (sSeq (sSetO 5 (eLst aNil)) (sSeq (sFor (aItems (eV 1)) (gT 2 (gsCons (gN 6) (gsCons (gN 7) gsNil))) lkN) (sIf lkT (sMut "list" 2 fAppend (aCons (eTup (aCons (eV 3) (aCons (eV 4) (aCons (eBor 5 (eBin fIx (eV 5) (eK (.int 0)))) aNil)))) aNil)) sNext)))
theorem fEq_dQ_nil (qs : List (Option (Option Nat))) : fEq (.lst (qs.map dQ)) (.lst []) = some (.bl qs.isEmpty) := by
  cases qs with
  | nil => simp
  | cons q qs =>
    have hf : fit 8 (.lst (dQ q :: qs.map dQ)) = true := by
      rw [fit_lst, List.all_eq_true]
      intro d hd
      have : d ∈ (q :: qs).map dQ := hd
      obtain ⟨a, _, rfl⟩ := List.mem_map.mp this
      exact fit_dQ 7 a
    exact fEq_cn _ _ hf
theorem compL_flat {α : Type} {tg : D → Dl → Option Dl} {c : EM Bool} {e : EM D} {lw : Dl} {rw : Rw} (f : α → D) (b : α → Bool) : ∀ xs : List α, (∀ x ∈ xs, ∃ l1, tg (f x) lw = some l1 ∧ c l1 rw = .ok (b x, rw) ∧ e l1 rw = .ok (f x, rw)) → compL tg c e lw (xs.map f) rw = .ok ((xs.filter b).map f, rw)
  | [], _ => rfl
  | x :: xs, h => by
    obtain ⟨l1, h1, h2, h3⟩ := h x (by simp)
    have ih := compL_flat f b xs fun y hy => h y (List.mem_cons_of_mem _ hy)
    rw [List.map_cons]
    unfold compL
    rw [h1]
    cases q : b x with
    | true =>
      rw [List.filter_cons, if_pos q]
      simp only [h2, h3, q, noX_ok, bind_ok, if_true, ih, List.map_cons]
    | false =>
      rw [List.filter_cons, if_neg (by rw [q]; simp)]
      simp only [h2, q, noX_ok, bind_ok, Bool.false_eq_true, if_false, ih]
theorem lkT_ok {p g : Nat} {qs : List (Option (Option Nat))} {rw : Rw} (hl : qs.length ≤ 90000) (x0 x1 x2 x6 x7 x8 x9 : Sl) :
    lkT [x0, x1, x2, .val (.int (p : Int)), .val (.int (g : Int)), .own (.lst (qs.map dQ)), x6, x7, x8, x9] rw = .ok (!decide (p = g) && (qs.all (·.isSome) && qs.all fun q => decide (q = qs.headD none)), rw) := by
  have hd : decide ((p : Int) = (g : Int)) = decide (p = g) := by simp; omega
  have hm := mark_in qs
  have hl1 : (qs.map dQ).length ≤ sizeLine := by rw [List.length_map]; exact sl_big (by omega)
  have hz : (0 : Nat) ≤ sizeLine := Nat.zero_le _
  have ec : ∀ U, U = D.lst (qs.map dQ) → compL (gN 9) (toB (eBin fNe (eV 9) (eBin fIx (eV 5) (eK (.int 0))))) (eV 9) [x0, x1, x2, .val (.int (p : Int)), .val (.int (g : Int)), .val U, x6, x7, x8, .no] (qs.map dQ) rw = .ok ((qs.filter fun q => !decide (q = qs.headD none)).map dQ, rw) := by
    rintro U rfl
    refine compL_flat dQ (fun q => !decide (q = qs.headD none)) qs fun q hq => ⟨[x0, x1, x2, .val (.int (p : Int)), .val (.int (g : Int)), .val (.lst (qs.map dQ)), x6, x7, x8, .val (dQ q)], rfl, ?_, rfl⟩
    have h0 : L2.atI (qs.map dQ) 0 = some (dQ (qs.headD none)) := by
      cases qs with
      | nil => simp at hq
      | cons a r => exact atI_zero _ _
    have hn := fNe_dQ q (qs.headD none)
    simp -implicitDefEqProofs only [toB_ap, eBin_ap, eV_ap, eK_ap, List.getElem?_cons_succ, List.getElem?_cons_zero, getV_val, bind_ok, fIx_lst, h0, ofO_some, hn, toBK_bl]
  have ecc := ec _ rfl
  have hwp : wipeD [x0, x1, x2, .val (.int (p : Int)), .val (.int (g : Int)), .val (.lst (qs.map dQ)), x6, x7, x8, x9] [9] = [x0, x1, x2, .val (.int (p : Int)), .val (.int (g : Int)), .val (.lst (qs.map dQ)), x6, x7, x8, .no] := rfl
  have he := fEq_dQ_nil (qs.filter fun q => !decide (q = qs.headD none))
  have hf : (qs.filter fun q => !decide (q = qs.headD none)).isEmpty = qs.all fun q => decide (q = qs.headD none) := by
    rw [Bool.eq_iff_iff, List.isEmpty_iff, List.filter_eq_nil_iff, List.all_eq_true]
    constructor
    · intro h q hq; simpa using h q hq
    · intro h q hq; simpa using h q hq
  rw [hf] at he
  unfold lkT
  cases c1 : decide (p = g) with
  | true =>
    rw [c1] at hd
    simp -implicitDefEqProofs only [tAnd_ap, toB_ap, eBin_ap, eV_ap, List.getElem?_cons_succ, List.getElem?_cons_zero, getV_val, bind_ok, fNe_int, hd, Bool.not_true, ofO_some, toBK_bl, Bool.false_eq_true, if_false, Bool.false_and]
  | false =>
    rw [c1] at hd
    cases c2 : qs.all (·.isSome) with
    | false =>
      rw [c2] at hm
      simp -implicitDefEqProofs only [tAnd_ap, toB_ap, eBin_ap, eV_ap, List.getElem?_cons_succ, List.getElem?_cons_zero, getV_val, bind_ok, fNe_int, hd, Bool.not_false, ofO_some, toBK_bl, if_true, tBor_ap, List.set_cons_succ, List.set_cons_zero, eK_ap, hm, noX_ok, Bool.false_eq_true, if_false, Bool.false_and, Bool.and_false]
    | true =>
      rw [c2] at hm
      simp -implicitDefEqProofs only [tAnd_ap, toB_ap, eBin_ap, eV_ap, List.getElem?_cons_succ, List.getElem?_cons_zero, getV_val, bind_ok, fNe_int, hd, Bool.not_false, ofO_some, toBK_bl, if_true, tBor_ap, List.set_cons_succ, List.set_cons_zero, eK_ap, hm, noX_ok, eComp_ap, aItems_ap, itemsOf_lst, hl1, hwp, ecc, eLst_ap, aNil_ap, List.length_nil, hz, he, Bool.true_and]
theorem lawWorlds_wd {W : Web} (h : WebOk W) : ∀ x ∈ lawWorlds W, LWdOk W.many x := by
  intro x hx
  have hlo := h.lo
  have hhi := h.hi
  unfold lawWorlds at hx
  obtain ⟨h1, h2⟩ := List.mem_filter.mp hx
  obtain ⟨S, hS, rfl⟩ := List.mem_map.mp h1
  refine ⟨by simp [lawSome], fun k l e => ?_⟩
  have := List.mem_iff_getElem?.mpr ⟨k, e⟩
  obtain ⟨g, hg, rfl⟩ := List.mem_map.mp this
  have hg' := List.mem_range'_1.mp hg
  refine ⟨Nat.le_trans (List.length_filter_le _ _) (lawWays_len ⟨hlo, hhi⟩ (by omega) (by omega)), fun u hu => ?_⟩
  exact (lawWays_ok ⟨hlo, hhi⟩ (by omega) (by omega) u (List.mem_filter.mp hu).1).len
theorem lawWorlds_len {W : Web} (h : WebOk W) : (lawWorlds W).length ≤ 32 := by
  unfold lawWorlds
  refine Nat.le_trans (List.length_filter_le _ _) ?_
  rw [List.length_map]
  exact lSil_len h.hi
theorem lkG_turn {W : Web} {p g : Nat} {rw : Rw} (h : WebOk W) (hp : p < W.many) (h1 : 1 ≤ g) (h2 : g < W.many) (hne : nextsQ W p g ≠ []) (ds : List D) (hd : ds.length ≤ 10000) (x0 x5 x6 x7 x8 x9 : Sl) :
    ∃ x5' x6' x7', lkG [x0, .val (.lst ((lawWorlds W).map dLWd)), .own (.lst ds), .val (.int (p : Int)), .val (.int (g : Int)), x5, x6, x7, x8, x9] rw =
      .ok (.next, [x0, .val (.lst ((lawWorlds W).map dLWd)), .own (.lst (ds ++ if lkB W p g = true then [lkD' W p g] else [])), .val (.int (p : Int)), .val (.int (g : Int)), x5', x6', x7', x8, x9], rw) := by
  have hwl := lawWorlds_len h
  obtain ⟨y6, y7, e⟩ := lkN_loop (rw := rw) hp h1 h2 x0 (.val (.lst ((lawWorlds W).map dLWd))) (.own (.lst ds)) x8 x9 (lawWorlds W) [] x6 x7 (lawWorlds_wd h) (by rw [List.length_nil]; omega)
  rw [List.nil_append, List.map_nil] at e
  have en : (lawWorlds W).flatMap (fun x => ((x.2[g - 1]?).getD []).map fun u => (u[p]?).getD none) = nextsQ W p g := rfl
  rw [en] at e
  have hql : (nextsQ W p g).length ≤ 90000 := by
    have : ∀ xs : List LWd, (∀ x ∈ xs, LWdOk W.many x) → (xs.flatMap fun x => ((x.2[g - 1]?).getD []).map fun u => (u[p]?).getD none).length ≤ xs.length * 1000 := by
      intro xs
      induction xs with
      | nil => intro _; simp
      | cons x xs ih =>
        intro hx
        have ih := ih fun y hy => hx y (List.mem_cons_of_mem _ hy)
        have hx0 := hx x List.mem_cons_self
        have hgl : g - 1 < x.2.length := by have := hx0.len; omega
        have gk : x.2[g - 1]? = some x.2[g - 1] := List.getElem?_eq_getElem hgl
        have := (hx0.few _ _ gk).1
        rw [List.flatMap_cons, List.length_append, List.length_cons, Nat.succ_mul, gk, Option.getD_some, List.length_map]
        omega
    have := this (lawWorlds W) (lawWorlds_wd h)
    rw [en] at this
    omega
  have et := lkT_ok (p := p) (g := g) (rw := rw) hql x0 (.val (.lst ((lawWorlds W).map dLWd))) (.own (.lst ds)) y6 y7 x8 x9
  have eb : (!decide (p = g) && ((nextsQ W p g).all (·.isSome) && (nextsQ W p g).all fun q => decide (q = (nextsQ W p g).headD none))) = lkB W p g := rfl
  rw [eb] at et
  have h0 : L2.atI ((nextsQ W p g).map dQ) 0 = some (dQ ((nextsQ W p g).headD none)) := by
    cases hq : nextsQ W p g with
    | nil => exact absurd hq hne
    | cons a r => exact atI_zero _ _
  have hsc := isSc_dQ ((nextsQ W p g).headD none)
  have hz : (0 : Nat) ≤ sizeLine := Nat.zero_le _
  have h3s : 3 ≤ sizeLine := sl_big (by decide)
  have hl1 : ds.length < sizeLine := sl_lt (by omega)
  have ed : lkD' W p g = .tup [.int (p : Int), .int (g : Int), dQ ((nextsQ W p g).headD none)] := rfl
  rw [ed]
  refine ⟨.own (.lst ((nextsQ W p g).map dQ)), y6, y7, ?_⟩
  generalize dQ ((nextsQ W p g).headD none) = hd' at *
  generalize (nextsQ W p g).map dQ = QS at *
  generalize (lawWorlds W).map dLWd = LS at *
  unfold lkG
  cases hq : lkB W p g with
  | true =>
    rw [hq] at et
    simp -implicitDefEqProofs only [sSeq_ap, sSetO_ap, eLst_ap, aNil_ap, bind_ok, List.length_nil, hz, if_true, ofO_some, List.set_cons_succ, List.set_cons_zero, seqK_next, sFor_ap, aItems_ap, eV_ap, List.getElem?_cons_succ, List.getElem?_cons_zero, getV_val, itemsOf_lst, e, sIf_ap, et, sMut_ap, tyD_lst, aCons_ap, eTup_ap, eBor_ap, eBin_ap, eK_ap, fIx_lst, h0, noX_ok, hsc, List.length_cons, Nat.zero_add, Nat.reduceAdd, h3s, fAppend_lst, hl1]
  | false =>
    rw [hq] at et
    simp -implicitDefEqProofs only [sSeq_ap, sSetO_ap, eLst_ap, aNil_ap, bind_ok, List.length_nil, hz, if_true, ofO_some, List.set_cons_succ, List.set_cons_zero, seqK_next, sFor_ap, aItems_ap, eV_ap, List.getElem?_cons_succ, List.getElem?_cons_zero, getV_val, itemsOf_lst, e, sIf_ap, et, Bool.false_eq_true, if_false, sNext_ap, List.append_nil]
theorem lk_goals {W : Web} {p : Nat} {rw : Rw} (h : WebOk W) (hp : p < W.many) (hne : ∀ g, 1 ≤ g → g < W.many → nextsQ W p g ≠ []) (x0 x8 x9 : Sl) : ∀ (gs : List Nat) (ds : List D) (x4 x5 x6 x7 : Sl), (∀ g ∈ gs, 1 ≤ g ∧ g < W.many) → ds.length + gs.length ≤ 10000 →
    ∃ x4' x5' x6' x7', sLoop (gN 4) lkG (dNs gs) [x0, .val (.lst ((lawWorlds W).map dLWd)), .own (.lst ds), .val (.int (p : Int)), x4, x5, x6, x7, x8, x9] rw = .ok (.next, [x0, .val (.lst ((lawWorlds W).map dLWd)), .own (.lst (ds ++ (gs.filter (lkB W p)).map (lkD' W p))), .val (.int (p : Int)), x4', x5', x6', x7', x8, x9], rw)
  | [], ds, x4, x5, x6, x7, _, _ => ⟨x4, x5, x6, x7, by simp [sLoop, dNs]⟩
  | g :: gs, ds, x4, x5, x6, x7, hg, hl => by
    rw [List.length_cons] at hl
    have hg0 := hg g List.mem_cons_self
    obtain ⟨y5, y6, y7, e1⟩ := lkG_turn (rw := rw) h hp hg0.1 hg0.2 (hne g hg0.1 hg0.2) ds (by omega) x0 x5 x6 x7 x8 x9
    have hle : (if lkB W p g = true then [lkD' W p g] else []).length ≤ 1 := by split <;> simp
    obtain ⟨x4', x5', x6', x7', e2⟩ := lk_goals (rw := rw) h hp hne x0 x8 x9 gs (ds ++ if lkB W p g = true then [lkD' W p g] else []) (.val (.int (g : Int))) y5 y6 y7 (fun k hk => hg k (List.mem_cons_of_mem _ hk)) (by rw [List.length_append]; omega)
    refine ⟨x4', x5', x6', x7', ?_⟩
    have : dNs (g :: gs) = .int (g : Int) :: dNs gs := rfl
    rw [this, sLoop]
    simp only [gN_ap, List.set_cons_succ, List.set_cons_zero]
    rw [e1]
    simp only [bind_ok]
    rw [e2]
    have : ds ++ ((g :: gs).filter (lkB W p)).map (lkD' W p) = (ds ++ if lkB W p g = true then [lkD' W p g] else []) ++ (gs.filter (lkB W p)).map (lkD' W p) := by
      rw [List.filter_cons]
      cases lkB W p g <;> simp
    rw [this]
def lkP' : SM := (sFor (aRng rng2 (aCons (eK (.int 1)) (aCons (eBin fIx (eV 0) (eK (.int 0))) aNil))) (gN 4) lkG)
theorem lk_posts {W : Web} {rw : Rw} (h : WebOk W) (hne : ∀ p g, p < W.many → 1 ≤ g → g < W.many → nextsQ W p g ≠ []) (x8 x9 : Sl) : ∀ (ps : List Nat) (ds : List D) (x3 x4 x5 x6 x7 : Sl), (∀ p ∈ ps, p < W.many) → ds.length + ps.length * 10 ≤ 10000 →
    ∃ x3' x4' x5' x6' x7', sLoop (gN 3) lkP' (dNs ps) [.val (dWeb W), .val (.lst ((lawWorlds W).map dLWd)), .own (.lst ds), x3, x4, x5, x6, x7, x8, x9] rw = .ok (.next, [.val (dWeb W), .val (.lst ((lawWorlds W).map dLWd)), .own (.lst (ds ++ ps.flatMap (lkP W))), x3', x4', x5', x6', x7', x8, x9], rw)
  | [], ds, x3, x4, x5, x6, x7, _, _ => ⟨x3, x4, x5, x6, x7, by simp [sLoop, dNs]⟩
  | p :: ps, ds, x3, x4, x5, x6, x7, hp, hl => by
    have hlo := h.lo
    have hhi := h.hi
    rw [List.length_cons, Nat.succ_mul] at hl
    have hp0 := hp p List.mem_cons_self
    obtain ⟨y4, y5, y6, y7, e1⟩ := lk_goals (rw := rw) h hp0 (fun g => hne p g hp0) (.val (dWeb W)) x8 x9 (List.range' 1 (W.many - 1)) ds x4 x5 x6 x7 (fun g hg => by have := List.mem_range'_1.mp hg; omega) (by rw [List.length_range']; omega)
    have hkl : (lkP W p).length ≤ 5 := by
      unfold lkP
      rw [List.length_map]
      refine Nat.le_trans (List.length_filter_le _ _) ?_
      rw [List.length_range']; omega
    have ek : ((List.range' 1 (W.many - 1)).filter (lkB W p)).map (lkD' W p) = lkP W p := rfl
    rw [ek] at e1
    obtain ⟨x3', x4', x5', x6', x7', e2⟩ := lk_posts (rw := rw) h hne x8 x9 ps (ds ++ lkP W p) (.val (.int (p : Int))) y4 y5 y6 y7 (fun k hk => hp k (List.mem_cons_of_mem _ hk)) (by rw [List.length_append]; omega)
    refine ⟨x3', x4', x5', x6', x7', ?_⟩
    have hr : rng2 [.int (1 : Int), .int (W.many : Int)] = some (dNs (List.range' 1 (W.many - 1))) := (rng2_of' (i := 1) (j := (W.many : Int)) (a := 1) (b := W.many) rfl rfl (by omega) (by omega)).trans (by rw [rangeD_dNs])
    have i0 := ix0 W
    have : dNs (p :: ps) = .int (p : Int) :: dNs ps := rfl
    rw [this, sLoop]
    simp only [gN_ap, List.set_cons_succ, List.set_cons_zero]
    rw [List.flatMap_cons, ← List.append_assoc, ← e2]
    generalize dWeb W = DW at *
    generalize (D.lst ((lawWorlds W).map dLWd)) = DL at *
    have eB : ∀ (l : Dl), l = [.val DW, .val DL, .own (.lst ds), .val (.int (p : Int)), x4, x5, x6, x7, x8, x9] → lkP' l rw = .ok (.next, [.val DW, .val DL, .own (.lst (ds ++ lkP W p)), .val (.int (p : Int)), y4, y5, y6, y7, x8, x9], rw) := by
      rintro l rfl
      unfold lkP'
      simp -implicitDefEqProofs only [sFor_ap, aRng_ap, aCons_ap, aNil_ap, eK_ap, eBin_ap, eV_ap, List.getElem?_cons_zero, getV_val, bind_ok, i0, ofO_some, hr, e1]
    rw [eB _ rfl]
    rfl
theorem law_known_ok {W : Web} {rw : Rw} (h : WebOk W) (hne : ∀ p g, p < W.many → 1 ≤ g → g < W.many → nextsQ W p g ≠ []) : d__law_known [dWeb W, .lst ((lawWorlds W).map dLWd)] rw = .ok (.lst (lawKnown W), rw) := by
  have hlo := h.lo
  have hhi := h.hi
  unfold d__law_known
  rw [dDef2]
  have eb : b__law_known = (sSeq (sSetO 2 (eLst aNil)) (sSeq (sFor (aRng rng1 (aCons (eBin fIx (eV 0) (eK (.int 0))) aNil)) (gN 3) lkP') (sRetV 2))) := rfl
  obtain ⟨x3, x4, x5, x6, x7, e2⟩ := lk_posts (rw := rw) h hne .no .no (List.range' 0 W.many) [] .no .no .no .no .no (fun p hp => by have := List.mem_range'_1.mp hp; omega) (by rw [List.length_range', List.length_nil]; omega)
  have ek : ([] : List D) ++ (List.range' 0 W.many).flatMap (lkP W) = lawKnown W := rfl
  rw [ek] at e2
  have hr : rng1 [.int (W.many : Int)] = some (dNs (List.range' 0 W.many)) := by
    rw [rng1_of' (n := W.many) rfl (by omega)]
    have := rangeD_dNs 0 W.many
    rw [show ((0 : Nat) : Int) = 0 from rfl] at this
    rw [this]
  have i0 := ix0 W
  have hz : (0 : Nat) ≤ sizeLine := Nat.zero_le _
  rw [eb]
  generalize dWeb W = DW at *
  generalize (D.lst ((lawWorlds W).map dLWd)) = DL at *
  simp -implicitDefEqProofs only [List.replicate, sSeq_ap, sSetO_ap, eLst_ap, aNil_ap, bind_ok, List.length_nil, hz, if_true, ofO_some, List.set_cons_succ, List.set_cons_zero, seqK_next, sFor_ap, aRng_ap, aCons_ap, eBin_ap, eV_ap, eK_ap, List.getElem?_cons_succ, List.getElem?_cons_zero, getV_val, i0, hr, e2, sRetV_ap, dFin_ret]
end HC
end
section
/-! Plain lemmas: the law's webs, twins. -/
namespace HC
open PySem PySem.Spec L2 HD
def iwB1 : SM := (sIf (tAnd' (toB (eUn notNonD (eBin fIx (eV 6) (eV 4)))) (tOr' (toB (eNotRg1 (eBin fIx (eV 6) (eV 4)) (eV 1))) (toB (eBin fEq (eBin fIx (eV 6) (eV 4)) (eV 4))))) (sRet (eK (.bl false))) sNext)
theorem iw_posts {m g : Nat} {w : List (Option Nat)} {rw : Rw} (hw : WayOk m g w) (x0 x2 x3 x5 : Sl) : ∀ (ps : List Nat) (x4 : Sl), (∀ p ∈ ps, p < m) →
    ∃ x4', sLoop (gN 4) iwB1 (dNs ps) [x0, .val (.int (m : Int)), x2, x3, x4, x5, .val (dWay w)] rw = .ok (.next, [x0, .val (.int (m : Int)), x2, x3, x4', x5, .val (dWay w)], rw)
  | [], x4, _ => ⟨x4, rfl⟩
  | p :: ps, x4, hp => by
    have hp0 := hp p List.mem_cons_self
    obtain ⟨x4', ih⟩ := iw_posts (rw := rw) hw x0 x2 x3 x5 ps (.val (.int (p : Int))) fun q hq => hp q (List.mem_cons_of_mem _ hq)
    refine ⟨x4', ?_⟩
    have hg := way_get hw hp0
    have ex : L2.atI (w.map dO) (p : Int) = some (dO ((w[p]?).getD none)) := by
      rw [atI_nat_eq, List.getElem?_map]
      conv => lhs; rw [hg]
      rfl
    have : dNs (p :: ps) = .int (p : Int) :: dNs ps := rfl
    rw [this, sLoop]
    simp only [gN_ap, List.set_cons_succ, List.set_cons_zero]
    have eB : iwB1 [x0, .val (.int (m : Int)), x2, x3, .val (.int (p : Int)), x5, .val (dWay w)] rw = .ok (.next, [x0, .val (.int (m : Int)), x2, x3, .val (.int (p : Int)), x5, .val (dWay w)], rw) := by
      unfold iwB1 dWay
      cases q : (w[p]?).getD none with
      | none =>
        rw [q] at ex
        simp -implicitDefEqProofs only [sIf_ap, tAnd_ap, toB_ap, eUn_ap, eBin_ap, eV_ap, List.getElem?_cons_succ, List.getElem?_cons_zero, getV_val, bind_ok, fIx_tup, ex, ofO_some, dO_none, notNon_non, toBK_bl, Bool.false_eq_true, if_false, sNext_ap]
      | some v =>
        rw [q] at ex hg
        obtain ⟨h1, h2⟩ := hw.go p v hg
        have e1 : decide ((0 : Int) ≤ (v : Int) ∧ (v : Int) < (m : Int)) = true := decide_eq_true ⟨by omega, by omega⟩
        have e2 : ¬ (v : Int) = (p : Int) := by omega
        simp -implicitDefEqProofs only [sIf_ap, tAnd_ap, tOr_ap, toB_ap, eUn_ap, eBin_ap, eNotRg1_ap, eV_ap, List.getElem?_cons_succ, List.getElem?_cons_zero, getV_val, bind_ok, fIx_tup, ex, ofO_some, dO_some, notNon_int, toBK_bl, if_true, e1, Bool.not_true, Bool.false_eq_true, if_false, fEq_int, e2, decide_false, sNext_ap]
    rw [eB]
    simp only [bind_ok]
    exact ih
def iwB2 : SM := (sSeq (sSet 6 (eBin fIx (eV 3) (eBin fSub (eV 5) (eK (.int 1))))) (sSeq (sIf (tOr' (tNot' (toB (eArgs fIsi (aCons (eV 6) (aCons (eK (.raw (.ty "tuple"))) aNil))))) (tOr' (toB (eBin fNe (eArgs fLen (aCons (eV 6) aNil)) (eV 1))) (toB (eUn notNonD (eBin fIx (eV 6) (eV 5)))))) (sRet (eK (.bl false))) sNext) (sFor (aRng rng1 (aCons (eV 1) aNil)) (gN 4) iwB1)))
theorem isi_tup (xs : List D) : fIsi [.tup xs, .raw (.ty "tuple")] = some (.bl true) := by
  rw [fIsi_ap]
  show ((some "tuple").bind fun a => (isT a "tuple").map D.bl) = _
  rw [Option.bind_some, isT_tt]; rfl
theorem iw_goals {V : Web} {rw : Rw} (h : WebOk V) (x0 x2 : Sl) : ∀ (gs : List Nat) (x4 x5 x6 : Sl), (∀ g ∈ gs, 1 ≤ g ∧ g < V.many) →
    ∃ x4' x5' x6', sLoop (gN 5) iwB2 (dNs gs) [x0, .val (.int (V.many : Int)), x2, .val (.tup (V.ways.map dWay)), x4, x5, x6] rw = .ok (.next, [x0, .val (.int (V.many : Int)), x2, .val (.tup (V.ways.map dWay)), x4', x5', x6'], rw)
  | [], x4, x5, x6, _ => ⟨x4, x5, x6, rfl⟩
  | g :: gs, x4, x5, x6, hg => by
    have hhi := h.hi
    have hg0 := hg g List.mem_cons_self
    have wa := wayOf_at h hg0.1 hg0.2
    have ig := wa.ix
    generalize wayOf V g = w at *
    obtain ⟨y4, e1⟩ := iw_posts (rw := rw) wa.ok x0 x2 (.val (.tup (V.ways.map dWay))) (.val (.int (g : Int))) (List.range' 0 V.many) x4 fun p hp => by have := List.mem_range'_1.mp hp; omega
    obtain ⟨x4', x5', x6', ih⟩ := iw_goals (rw := rw) h x0 x2 gs y4 (.val (.int (g : Int))) (.val (dWay w)) fun k hk => hg k (List.mem_cons_of_mem _ hk)
    refine ⟨x4', x5', x6', ?_⟩
    have hat : L2.atI (w.map dO) (g : Int) = some .non := by rw [atI_nat_eq, List.getElem?_map, wa.ok.at_]; rfl
    have hlen : (w.map dO).length = V.many := by rw [List.length_map, wa.ok.len]
    have hisi := isi_tup (w.map dO)
    have hr : rng1 [.int (V.many : Int)] = some (dNs (List.range' 0 V.many)) := by
      rw [rng1_of' (n := V.many) rfl (by omega)]
      have := rangeD_dNs 0 V.many
      rw [show ((0 : Nat) : Int) = 0 from rfl] at this
      rw [this]
    have : dNs (g :: gs) = .int (g : Int) :: dNs gs := rfl
    rw [this, sLoop]
    simp only [gN_ap, List.set_cons_succ, List.set_cons_zero]
    have eB : iwB2 [x0, .val (.int (V.many : Int)), x2, .val (.tup (V.ways.map dWay)), x4, .val (.int (g : Int)), x6] rw = .ok (.next, [x0, .val (.int (V.many : Int)), x2, .val (.tup (V.ways.map dWay)), y4, .val (.int (g : Int)), .val (dWay w)], rw) := by
      have ew : dWay w = .tup (w.map dO) := rfl
      rw [ew] at ig e1 ⊢
      generalize V.ways.map dWay = WS at *
      generalize w.map dO = us at *
      unfold iwB2
      simp -implicitDefEqProofs only [sSeq_ap, sSet_ap, eBin_ap, eV_ap, eK_ap, List.getElem?_cons_succ, List.getElem?_cons_zero, getV_val, bind_ok, fSub_int, ofO_some, fIx_tup, ig, List.set_cons_succ, List.set_cons_zero, seqK_next, sIf_ap, tOr_ap, tNot_ap, toB_ap, eArgs_ap, aCons_ap, aNil_ap, hisi, toBK_bl, Bool.not_true, Bool.false_eq_true, if_false, fLen_tup, hlen, fNe_int, decide_true, eUn_ap, hat, notNon_non, sNext_ap, sFor_ap, aRng_ap, hr, e1]
    rw [eB]
    simp only [bind_ok]
    exact ih
theorem many_in {m : Nat} (h1 : 2 ≤ m) (h2 : m ≤ 6) : fIn true (.int (m : Int)) (.tup [.int 2, .int 3, .int 4, .int 5, .int 6]) = some (.bl false) := by
  have : m = 2 ∨ m = 3 ∨ m = 4 ∨ m = 5 ∨ m = 6 := by omega
  rcases this with rfl | rfl | rfl | rfl | rfl <;> rfl
theorem law_is_web_ok {V : Web} {rw : Rw} (h : WebOk V) : d__law_is_web [dWeb V] rw = .ok (.bl true, rw) := by
  have hlo := h.lo
  have hhi := h.hi
  have eb : b__law_is_web = (sSeq (sIf (tOr' (tNot' (toB (eArgs fIsi (aCons (eV 0) (aCons (eK (.raw (.ty "tuple"))) aNil))))) (tOr' (toB (eBin fNe (eArgs fLen (aCons (eV 0) aNil)) (eK (.int 3)))) (tOr' (tNot' (toB (eArgs fIsi (aCons (eBin fIx (eV 0) (eK (.int 1))) (aCons (eK (.raw (.ty "tuple"))) aNil))))) (tNot' (toB (eArgs fIsi (aCons (eBin fIx (eV 0) (eK (.int 2))) (aCons (eK (.raw (.ty "tuple"))) aNil)))))))) (sRet (eK (.bl false))) sNext) (sSeq (sAsg (eV 0) (gT 3 (gsCons (gN 1) (gsCons (gN 2) (gsCons (gN 3) gsNil))))) (sSeq (sIf (tOr' (toB (eBin (fIn true) (eV 1) (eTup (aCons (eK (.int 2)) (aCons (eK (.int 3)) (aCons (eK (.int 4)) (aCons (eK (.int 5)) (aCons (eK (.int 6)) aNil)))))))) (toB (eBin fNe (eArgs fLen (aCons (eV 3) aNil)) (eBin fSub (eV 1) (eK (.int 1)))))) (sRet (eK (.bl false))) sNext) (sSeq (sIf (tOr' (toB (eBin fNe (eComp (aItems (eV 2)) (gN 4) (toB (eNotRg (eV 4) (eK (.int 1)) (eV 1))) (eV 4) [4]) (eLst aNil))) (toB (eBin fNe (eArgs fList (aCons (eV 2) aNil)) (eUn sortSet (eV 2))))) (sRet (eK (.bl false))) sNext) (sSeq (sFor (aRng rng2 (aCons (eK (.int 1)) (aCons (eV 1) aNil))) (gN 5) iwB2) (sRet (eK (.bl true)))))))) := rfl
  have hd : dWeb V = .tup [.int (V.many : Int), .tup (dNs V.silent), .tup (V.ways.map dWay)] := rfl
  have h3l : ([D.int (V.many : Int), .tup (dNs V.silent), .tup (V.ways.map dWay)] : List D).length = 3 := rfl
  have i0 : L2.atI [D.int (V.many : Int), .tup (dNs V.silent), .tup (V.ways.map dWay)] 1 = some (.tup (dNs V.silent)) := atI_one _ _ _
  have i1 : L2.atI [D.int (V.many : Int), .tup (dNs V.silent), .tup (V.ways.map dWay)] 2 = some (.tup (V.ways.map dWay)) := atI_two _ _ _ _
  have hisi := fun xs => isi_tup xs
  have hmi := many_in hlo hhi
  have hw : ((V.ways.map dWay).length : Int) = (V.many : Int) - 1 := by rw [List.length_map]; have := h.len; omega
  have hlen : (dNs V.silent).length ≤ sizeLine := sl_big (by rw [dNs, List.length_map]; have := h.silLen; omega)
  have hne : fNe (.lst (dNs V.silent)) (.lst (dNs V.silent)) = some (.bl false) := fNe_self (n := 1) (by decide) (by simp [fit_dNs])
  have hss : sortSet (.tup (dNs V.silent)) = some (.lst (dNs V.silent)) := by
    unfold sortSet
    simp only [toInts_dNs, Option.bind_some]
    rw [if_pos (by rw [List.length_map]; have := h.silLen; omega), sortU_id h.sort, List.map_map]
    rfl
  have hr : rng2 [.int (1 : Int), .int (V.many : Int)] = some (dNs (List.range' 1 (V.many - 1))) := (rng2_of' (i := 1) (j := (V.many : Int)) (a := 1) (b := V.many) rfl rfl (by omega) (by omega)).trans (by rw [rangeD_dNs])
  have ec := fun (x0 x3 : Sl) => compL_nat (tg := gN 4) (c := toB (eNotRg (eV 4) (eK (.int 1)) (eV 1))) (e := eV 4) (lw := [x0, .val (.int (V.many : Int)), .val (.tup (dNs V.silent)), x3, .no, .no, .no]) (rw := rw) (fun _ => false) V.silent fun p hp => ⟨[x0, .val (.int (V.many : Int)), .val (.tup (dNs V.silent)), x3, .val (.int (p : Int)), .no, .no], rfl, by
    have hs := h.sil p hp
    have e1 : decide ((1 : Int) ≤ (p : Int) ∧ (p : Int) < (V.many : Int)) = true := decide_eq_true ⟨by omega, by omega⟩
    simp -implicitDefEqProofs only [toB_ap, eNotRg_ap, eV_ap, eK_ap, List.getElem?_cons_succ, List.getElem?_cons_zero, getV_val, bind_ok, e1, Bool.not_true, toBK_bl], by simp -implicitDefEqProofs only [eV_ap, List.getElem?_cons_succ, List.getElem?_cons_zero, getV_val]⟩
  have ef : V.silent.filter (fun _ => false) = [] := by simp
  rw [ef] at ec
  have en : dNs [] = [] := rfl
  rw [en] at ec
  obtain ⟨x4', x5', x6', e⟩ := iw_goals (rw := rw) h (.val (dWeb V)) (.val (.tup (dNs V.silent))) (List.range' 1 (V.many - 1)) .no .no .no fun g hg => by have := List.mem_range'_1.mp hg; omega
  have hwp : ∀ x0 x3 : Sl, wipeD [x0, .val (.int (V.many : Int)), .val (.tup (dNs V.silent)), x3, .no, .no, .no] [4] = [x0, .val (.int (V.many : Int)), .val (.tup (dNs V.silent)), x3, .no, .no, .no] := fun x0 x3 => rfl
  have hz : (0 : Nat) ≤ sizeLine := Nat.zero_le _
  have h5s : 5 ≤ sizeLine := sl_big (by decide)
  unfold d__law_is_web
  rw [dDef1, eb]
  rw [hd] at e ⊢
  generalize V.ways.map dWay = WS at *
  generalize dNs V.silent = SS at *
  simp -implicitDefEqProofs only [List.replicate, sSeq_ap, sIf_ap, tOr_ap, tNot_ap, toB_ap, eArgs_ap, aCons_ap, aNil_ap, eV_ap, eK_ap, List.getElem?_cons_succ, List.getElem?_cons_zero, getV_val, bind_ok, hisi, ofO_some, toBK_bl, Bool.not_true, Bool.false_eq_true, if_false, eBin_ap, fLen_tup, List.length_cons, List.length_nil, Nat.zero_add, Nat.reduceAdd, fNe_int, fIx_tup, i0, i1, sNext_ap, seqK_next, sAsg_ap, gT_ap, if_true, gsCons_ap, gN_ap, gsNil_ap, Option.bind_some, List.set_cons_succ, List.set_cons_zero, eTup_ap, h5s, hmi, fSub_int, hw, decide_true, eComp_ap, aItems_ap, itemsOf_tup, hlen, hwp, ec, eLst_ap, hz, fNe_nil, fList_tup, eUn_ap, hss, hne, sFor_ap, aRng_ap, hr, e, sRet_ap, dFin_ret, show (((3 : Nat) : Int) = 3) from rfl]
/-! ### twins -/
theorem law_is_twin_ok {W V : Web} {p g : Nat} {rw : Rw} (h : WebOk W) (hV : WebOk V) (hm : V.many = W.many) (h1 : 1 ≤ g) (h2 : g < W.many) (hp : p < W.many) (hd : thereW V p g ≠ thereW W p g)
    (ha : ∀ k, 1 ≤ k → k < W.many → ansL W.silent (wayOf W k) k (2 * W.many) = ansL V.silent (wayOf V k) k (2 * W.many)) : d__law_is_twin [dWeb W, dWeb V, .int (p : Int), .int (g : Int)] rw = .ok (.bl true, rw) := by
  have hlo := h.lo
  have hhi := h.hi
  have eb : b__law_is_twin = (sSeq (sIf (tOr' (tNot' (toB (eCall d__law_is_web (aCons (eV 1) aNil)))) (tOr' (toB (eBin fNe (eBin fIx (eV 1) (eK (.int 0))) (eBin fIx (eV 0) (eK (.int 0))))) (toB (eBin fEq (eBin fIx (eBin fIx (eBin fIx (eV 1) (eK (.int 2))) (eBin fSub (eV 3) (eK (.int 1)))) (eV 2)) (eBin fIx (eBin fIx (eBin fIx (eV 0) (eK (.int 2))) (eBin fSub (eV 3) (eK (.int 1)))) (eV 2)))))) (sRet (eK (.bl false))) sNext) (sSeq (sSet 4 (eBin fMul (eK (.int 2)) (eBin fIx (eV 0) (eK (.int 0))))) (sRet (eBin fEq (eComp (aRng rng2 (aCons (eK (.int 1)) (aCons (eBin fIx (eV 0) (eK (.int 0))) aNil))) (gN 5) (toB (eBin fNe (eCall d__law_answers (aCons (eV 0) (aCons (eV 5) (aCons (eV 4) aNil)))) (eCall d__law_answers (aCons (eV 1) (aCons (eV 5) (aCons (eV 4) aNil)))))) (eV 5) [5]) (eLst aNil))))) := rfl
  have ei := law_is_web_ok (rw := rw) hV
  have w0 := ix0 W
  have w2 := ix2 W
  have v0 := ix0 V
  have v2 := ix2 V
  rw [hm] at v0
  have wa := wayOf_at h h1 h2
  have va := wayOf_at hV h1 (show g < V.many by omega)
  have wg := wa.ix
  have vg := va.ix
  have we : dWay (wayOf W g) = .tup ((wayOf W g).map dO) := rfl
  have ve : dWay (wayOf V g) = .tup ((wayOf V g).map dO) := rfl
  rw [we] at wg
  rw [ve] at vg
  have wx : L2.atI ((wayOf W g).map dO) (p : Int) = some (dO (thereW W p g)) := by rw [atI_nat_eq, List.getElem?_map, way_get wa.ok hp]; rfl
  have vx : L2.atI ((wayOf V g).map dO) (p : Int) = some (dO (thereW V p g)) := by rw [atI_nat_eq, List.getElem?_map, way_get va.ok (show p < V.many by omega)]; rfl
  have hq : fEq (dO (thereW V p g)) (dO (thereW W p g)) = some (.bl false) := by rw [fEq_dOO, decide_eq_false hd]
  have hmul : fMul (.int 2) (.int (W.many : Int)) = some (.int ((2 * W.many : Nat) : Int)) := by
    rw [fMul_int, if_pos (by omega)]
    congr 2
  have hr : rng2 [.int (1 : Int), .int (W.many : Int)] = some (dNs (List.range' 1 (W.many - 1))) := (rng2_of' (i := 1) (j := (W.many : Int)) (a := 1) (b := W.many) rfl rfl (by omega) (by omega)).trans (by rw [rangeD_dNs])
  have hrl : (dNs (List.range' 1 (W.many - 1))).length ≤ sizeLine := sl_big (by rw [dNs_len, List.length_range']; omega)
  have ec := compL_nat (tg := gN 5) (c := (toB (eBin fNe (eCall d__law_answers (aCons (eV 0) (aCons (eV 5) (aCons (eV 4) aNil)))) (eCall d__law_answers (aCons (eV 1) (aCons (eV 5) (aCons (eV 4) aNil))))))) (e := eV 5) (lw := [.val (dWeb W), .val (dWeb V), .val (.int (p : Int)), .val (.int (g : Int)), .val (.int ((2 * W.many : Nat) : Int)), .no]) (rw := rw) (fun _ => false) (List.range' 1 (W.many - 1)) fun k hk => ⟨[.val (dWeb W), .val (dWeb V), .val (.int (p : Int)), .val (.int (g : Int)), .val (.int ((2 * W.many : Nat) : Int)), .val (.int (k : Int))], rfl, by
    have hk' := List.mem_range'_1.mp hk
    have e1 := law_answers_ok (n := 2 * W.many) (rw := rw) h (wayOf_at h (show 1 ≤ k by omega) (by omega)) (by omega)
    have e2 := law_answers_ok (n := 2 * W.many) (rw := rw) hV (wayOf_at hV (show 1 ≤ k by omega) (by omega)) (by omega)
    rw [← ha k (by omega) (by omega)] at e2
    have en : fNe (.lst (ansL W.silent (wayOf W k) k (2 * W.many))) (.lst (ansL W.silent (wayOf W k) k (2 * W.many))) = some (.bl false) := fNe_self (n := 8) (by decide) (fit_ansL 6 _ _ _ _)
    generalize dWeb W = DW at *
    generalize dWeb V = DV at *
    simp -implicitDefEqProofs only [toB_ap, eBin_ap, eCall_ap, aCons_ap, aNil_ap, eV_ap, List.getElem?_cons_succ, List.getElem?_cons_zero, getV_val, bind_ok, e1, e2, en, ofO_some, toBK_bl], by simp -implicitDefEqProofs only [eV_ap, List.getElem?_cons_succ, List.getElem?_cons_zero, getV_val]⟩
  have ef : (List.range' 1 (W.many - 1)).filter (fun _ => false) = [] := by simp
  have en : dNs [] = [] := rfl
  rw [ef, en] at ec
  have hz : (0 : Nat) ≤ sizeLine := Nat.zero_le _
  unfold d__law_is_twin
  rw [dDef4, eb]
  generalize dWeb W = DW at *
  generalize dWeb V = DV at *
  have hwp : wipeD [.val DW, .val DV, .val (.int (p : Int)), .val (.int (g : Int)), .val (.int ((2 * W.many : Nat) : Int)), .no] [5] = [.val DW, .val DV, .val (.int (p : Int)), .val (.int (g : Int)), .val (.int ((2 * W.many : Nat) : Int)), .no] := rfl
  simp -implicitDefEqProofs only [List.replicate, sSeq_ap, sIf_ap, tOr_ap, tNot_ap, toB_ap, eCall_ap, aCons_ap, aNil_ap, eV_ap, eK_ap, eBin_ap, List.getElem?_cons_succ, List.getElem?_cons_zero, getV_val, bind_ok, ei, toBK_bl, Bool.not_true, Bool.false_eq_true, if_false, v0, w0, ofO_some, fNe_int, decide_true, v2, w2, fSub_int, fIx_tup, vg, wg, vx, wx, hq, sNext_ap, seqK_next, sSet_ap, hmul, List.set_cons_succ, List.set_cons_zero, sRet_ap, eComp_ap, aRng_ap, hr, hrl, if_true, hwp, ec, eLst_ap, List.length_nil, hz, fEq_nil, dFin_ret]
end HC
end
section
/-! Plain lemmas: worlds, by whole ways. -/
namespace HC
open PySem PySem.Spec L2 HD
/-- w gives what the web gives, with S silent -/
def Cons (W : Web) (S : List Nat) (w : List (Option Nat)) (g : Nat) : Prop := ∀ n, 1 ≤ n → n ≤ 2 * W.many → ansM S g (posM w g n) = told W g n
def World (W : Web) (S : List Nat) : Prop := SilOk W.many S ∧ ∀ g, 1 ≤ g → g < W.many → ∃ w, WayOk W.many g w ∧ Cons W S w g
theorem Cons.congr {W : Web} {S : List Nat} {w v : List (Option Nat)} {g : Nat} (h : Cons W S w g) (e : ∀ n, posM v g n = posM w g n) : Cons W S v g := fun n h1 h2 => by rw [e]; exact h n h1 h2
theorem gives_cons {W : Web} (h : WebOk W) {S : List Nat} {w : List (Option Nat)} {g : Nat} : givesB S w g (dueW W g) = true ↔ Cons W S w g := by
  rw [givesB_iff (dueW_ok h g)]
  constructor
  · intro h1 n a b; exact h1 (n, told W g n) (dueW_mem.mpr ⟨a, b, rfl⟩)
  · intro h1 p hp
    obtain ⟨a, b, c⟩ := dueW_mem.mp hp
    rw [c]; exact h1 p.1 a b
theorem eqDs_map {f h : Nat → D} : ∀ xs : List Nat, (∀ x ∈ xs, isAns (f x) ∧ isAns (h x)) → (eqDs (xs.map f) (xs.map h) = true ↔ ∀ x ∈ xs, f x = h x)
  | [], _ => by simp
  | x :: xs, ha => by
    have ih := eqDs_map xs fun y hy => ha y (List.mem_cons_of_mem _ hy)
    obtain ⟨a, b⟩ := ha x List.mem_cons_self
    rw [List.map_cons, List.map_cons, eqDs_cons, Bool.and_eq_true, eqD_isAns a b, ih]
    simp
theorem lwC_cons {W : Web} {S : List Nat} {u : LW} {g : Nat} : lwC W S g u = true ↔ Cons W S (toW u) g := by
  unfold lwC ansL
  rw [eqDs_map _ fun x _ => ⟨isAns_of _ _ _, isAns_of _ _ _⟩]
  constructor
  · intro h1 n a b
    have := h1 (n - 1) (List.mem_range'_1.mpr (by omega))
    rw [show n - 1 + 1 = n by omega] at this
    exact this
  · intro h1 x hx
    have := List.mem_range'_1.mp hx
    exact h1 (x + 1) (by omega) (by omega)
theorem giving_mem {m g : Nat} {S : List Nat} {q : Due} {ws : List Dc} {δ : Dc} : δ ∈ givingL m S g q ws ↔ δ ∈ ws ∧ givesB S (fill m δ) g q = true := by unfold givingL; exact List.mem_filter
theorem someW_get {W : Web} {S : List Nat} {g : Nat} (h1 : 1 ≤ g) (h2 : g < W.many) : (someW W S)[g - 1]? = some (givingL W.many S g (dueW W g) (aWays W.many g)) := by
  unfold someW
  rw [List.getElem?_map, List.getElem?_range' (by omega)]
  simp only [Option.map_some, Nat.one_mul]
  rw [show 1 + (g - 1) = g by omega]
theorem lawSome_get {W : Web} {S : List Nat} {g : Nat} (h1 : 1 ≤ g) (h2 : g < W.many) : (lawSome W S)[g - 1]? = some (lawGood W S g) := by
  unfold lawSome
  rw [List.getElem?_map, List.getElem?_range' (by omega)]
  simp only [Option.map_some, Nat.one_mul]
  rw [show 1 + (g - 1) = g by omega]
/-- a dict that gives is a way that gives -/
theorem give_way {W : Web} (h : WebOk W) {S : List Nat} {g : Nat} (h1 : 1 ≤ g) (h2 : g < W.many) {δ : Dc} (hd : δ ∈ givingL W.many S g (dueW W g) (aWays W.many g)) : IsW W.many g δ ∧ WayOk W.many g (fill W.many δ) ∧ IsWalkOf (fill W.many δ) g δ ∧ Cons W S (fill W.many δ) g := by
  obtain ⟨a, b⟩ := giving_mem.mp hd
  have hi := aWays_isW ⟨h.lo, h.hi⟩ h1 h2 δ a
  obtain ⟨f1, f2⟩ := hi.fill h2 (noWay_ok h2)
  exact ⟨hi, f1, f2, (gives_cons h).mp b⟩
theorem way_give {W : Web} (h : WebOk W) {S : List Nat} {g : Nat} (h1 : 1 ≤ g) (h2 : g < W.many) {w : List (Option Nat)} (hw : WayOk W.many g w) (hc : Cons W S w g) : ∃ δ ∈ givingL W.many S g (dueW W g) (aWays W.many g), IsWalkOf w g δ := by
  have hlo := h.lo
  obtain ⟨δ, hd, hi⟩ := aWays_cov ⟨h.lo, h.hi⟩ h1 h2 hw
  obtain ⟨f1, f2⟩ := (aWays_isW ⟨h.lo, h.hi⟩ h1 h2 δ hd).fill h2 (noWay_ok h2)
  exact ⟨δ, giving_mem.mpr ⟨hd, (gives_cons h).mpr (hc.congr fun n => walk_same (by omega) f1 hw f2 hi n)⟩, hi⟩
theorem seen_not {W : Web} (h : WebOk W) {S : List Nat} (hw : World W S) : ∀ p : Nat, p ∈ S → (p : Int) ∉ seenW W := by
  intro p hp hs
  unfold seenW at hs
  obtain ⟨g, hg, hs⟩ := List.mem_flatMap.mp hs
  have hg' := List.mem_range'_1.mp hg
  obtain ⟨d, hd, e⟩ := List.mem_filterMap.mp hs
  obtain ⟨q, hq, rfl⟩ := List.mem_map.mp hd
  obtain ⟨a, b, c⟩ := dueW_mem.mp hq
  have hlo := h.lo
  obtain ⟨w, _, hc⟩ := hw.2 g (by omega) (by omega)
  have := hc q.1 a b
  rw [← c] at this
  rw [← this] at e
  cases hpos : posM w g q.1 with
  | none => rw [hpos] at e; cases e
  | some r =>
    rw [hpos] at e
    unfold ansM at e
    dsimp only at e
    split at e
    · cases e
    · rename_i hn
      have er : r = p := by
        simp only [seenI, Option.some.injEq] at e
        omega
      exact hn (er ▸ hp)
theorem prog_worlds {W : Web} (h : WebOk W) {x : Wd} : x ∈ worldsW W ↔ ∃ S, World W S ∧ x = (S, someW W S) := by
  unfold worldsW
  rw [List.mem_filter, List.mem_map]
  constructor
  · rintro ⟨⟨S, hS, rfl⟩, hb⟩
    refine ⟨S, ⟨(aSil_mem.mp hS).1, fun g h1 h2 => ?_⟩, rfl⟩
    have hm := List.all_eq_true.mp hb _ (List.mem_iff_getElem?.mpr ⟨g - 1, someW_get h1 h2⟩)
    cases hq : givingL W.many S g (dueW W g) (aWays W.many g) with
    | nil => rw [hq] at hm; cases hm
    | cons δ r =>
      obtain ⟨_, b, _, d⟩ := give_way h h1 h2 (show δ ∈ givingL W.many S g (dueW W g) (aWays W.many g) by rw [hq]; exact List.mem_cons_self)
      exact ⟨_, b, d⟩
  · rintro ⟨S, hw, rfl⟩
    refine ⟨⟨S, aSil_mem.mpr ⟨hw.1, seen_not h hw⟩, rfl⟩, ?_⟩
    refine List.all_eq_true.mpr fun l hl => ?_
    obtain ⟨g, hg, rfl⟩ := List.mem_map.mp hl
    have hg' := List.mem_range'_1.mp hg
    obtain ⟨w, a, b⟩ := hw.2 g (by omega) (by omega)
    obtain ⟨δ, hd, _⟩ := way_give h (by omega) (by omega) a b
    cases hq : givingL W.many S g (dueW W g) (aWays W.many g) with
    | nil => rw [hq] at hd; cases hd
    | cons δ r => rfl
theorem law_good_mem {W : Web} {S : List Nat} {g : Nat} {u : LW} : u ∈ lawGood W S g ↔ u ∈ lawWays W.many g ∧ Cons W S (toW u) g := by
  unfold lawGood
  rw [List.mem_filter, lwC_cons]
theorem law_worlds_iff {W : Web} (h : WebOk W) {x : LWd} : x ∈ lawWorlds W ↔ ∃ S, World W S ∧ x = (S, lawSome W S) := by
  unfold lawWorlds
  rw [List.mem_filter, List.mem_map]
  constructor
  · rintro ⟨⟨S, hS, rfl⟩, hb⟩
    refine ⟨S, ⟨lSil_mem.mp hS, fun g h1 h2 => ?_⟩, rfl⟩
    have hm := List.all_eq_true.mp hb _ (List.mem_iff_getElem?.mpr ⟨g - 1, lawSome_get h1 h2⟩)
    cases hq : lawGood W S g with
    | nil => rw [hq] at hm; cases hm
    | cons u r =>
      obtain ⟨a, b⟩ := law_good_mem.mp (show u ∈ lawGood W S g by rw [hq]; exact List.mem_cons_self)
      exact ⟨_, (lawWays_ok ⟨h.lo, h.hi⟩ h1 h2 u a).way, b⟩
  · rintro ⟨S, hw, rfl⟩
    refine ⟨⟨S, lSil_mem.mpr hw.1, rfl⟩, ?_⟩
    refine List.all_eq_true.mpr fun l hl => ?_
    obtain ⟨g, hg, rfl⟩ := List.mem_map.mp hl
    have hg' := List.mem_range'_1.mp hg
    obtain ⟨w, a, b⟩ := hw.2 g (by omega) (by omega)
    obtain ⟨u, hu, hp, _⟩ := lawWays_cov ⟨h.lo, h.hi⟩ (show 1 ≤ g by omega) (show g < W.many by omega) a
    have hm := law_good_mem.mpr ⟨hu, b.congr hp⟩
    cases hq : lawGood W S g with
    | nil => rw [hq] at hm; cases hm
    | cons u r => rfl
/-- the web's own world -/
theorem own_world {W : Web} (h : WebOk W) : World W W.silent := by
  refine ⟨?_, fun g h1 h2 => ⟨_, (wayOf_at h h1 h2).ok, fun n _ _ => rfl⟩⟩
  unfold SilOk
  have hs := h.sort
  have hb := h.sil
  have hlo := h.lo
  generalize W.silent = S at hs hb
  generalize W.many = m at hb hlo
  have : ∀ (S : List Nat) (a n : Nat), S.Pairwise (· < ·) → (∀ p ∈ S, a ≤ p ∧ p < a + n) → S.Sublist (List.range' a n) := by
    intro S a n
    induction n generalizing S a with
    | zero =>
      intro _ hb
      cases S with
      | nil => exact .slnil
      | cons p S => have := hb p List.mem_cons_self; omega
    | succ n ih =>
      intro hs hb
      rw [List.range'_succ]
      cases S with
      | nil => exact List.nil_sublist _
      | cons p S =>
        rw [List.pairwise_cons] at hs
        by_cases hp : p = a
        · subst hp
          refine (ih S (p + 1) hs.2 fun q hq => ?_).cons_cons _
          have h1 := hs.1 q hq
          have h2 := hb q (List.mem_cons_of_mem _ hq)
          omega
        · refine (ih (p :: S) (a + 1) (List.pairwise_cons.mpr hs) fun q hq => ?_).cons _
          have h0 := hb p List.mem_cons_self
          have h2 := hb q hq
          rcases List.mem_cons.mp hq with rfl | hq
          · omega
          · have := hs.1 q hq; omega
  refine this S 1 (m - 1) hs fun p hp => ?_
  have := hb p hp
  omega
theorem posM_unseen {w : List (Option Nat)} {g p : Nat} {o : Option Nat} (h : ¬ Sees w g p) : ∀ n, posM (w.set p o) g n = posM w g n
  | 0 => rfl
  | n + 1 => by
    have ih := posM_unseen (o := o) h n
    unfold posM
    rw [ih]
    cases q : posM w g n with
    | none => rfl
    | some r =>
      have hr : p ≠ r := fun e => h ⟨n, by rw [q, e]⟩
      unfold hopM
      dsimp only
      rw [List.getElem?_set_ne hr]
/-- what is known by all that is alike -/
def KnownP (W : Web) (p g : Nat) (o : Option Nat) : Prop := ∀ S, World W S → ∀ w, WayOk W.many g w → Cons W S w g → Sees w g p ∧ w[p]? = some o
theorem otherN_ok {m p : Nat} {o : Option Nat} (hm : 2 ≤ m) (hp : p < m) : otherN m p o ≠ o ∧ ∀ v, otherN m p o = some v → v < m ∧ v ≠ p := by
  unfold otherN
  cases o with
  | some v => exact ⟨by simp, fun u e => by simp at e⟩
  | none =>
    have hl := oth_len m p hp
    have g0 : (oth m p)[0]? = some (oth m p)[0] := List.getElem?_eq_getElem (by omega)
    refine ⟨by simp [g0], fun u e => ?_⟩
    simp [g0] at e
    exact oth_mem (e ▸ List.getElem_mem _)
theorem twin_none {W : Web} (h : WebOk W) {p g : Nat} (h1 : 1 ≤ g) (h2 : g < W.many) (hp : p < W.many) (hpg : p ≠ g) : twinO W p g = none ↔ KnownP W p g (thereW W p g) := by
  have hlo := h.lo
  unfold twinO
  rw [List.findSome?_eq_none_iff]
  constructor
  · intro hn S hS w hw hc
    have := hn (S, someW W S) ((prog_worlds h).mpr ⟨S, hS, rfl⟩)
    unfold twinF at this
    dsimp only at this
    rw [someW_get h1 h2, Option.getD_some, Option.map_eq_none_iff, List.find?_eq_none] at this
    obtain ⟨δ, hd, hi⟩ := way_give h h1 h2 hw hc
    have ht := this δ hd
    have hl : δ.lookup p = some (thereW W p g) := by
      unfold isTw at ht
      simpa using ht
    exact ((hi p _).mp hl).2
  · intro hk x hx
    obtain ⟨S, hS, rfl⟩ := (prog_worlds h).mp hx
    unfold twinF
    dsimp only
    rw [someW_get h1 h2, Option.getD_some, Option.map_eq_none_iff, List.find?_eq_none]
    intro δ hd
    obtain ⟨_, f1, f2, f3⟩ := give_way h h1 h2 hd
    obtain ⟨a, b⟩ := hk S hS _ f1 f3
    have := (f2 p _).mpr ⟨hpg, a, b⟩
    unfold isTw
    rw [this]
    simp
theorem nexts_memQ {W : Web} (h : WebOk W) {p g : Nat} (h1 : 1 ≤ g) (h2 : g < W.many) {q : Option (Option Nat)} : q ∈ nextsQ W p g ↔ ∃ S, World W S ∧ ∃ u ∈ lawWays W.many g, Cons W S (toW u) g ∧ q = (u[p]?).getD none := by
  unfold nextsQ
  rw [List.mem_flatMap]
  constructor
  · rintro ⟨x, hx, hq⟩
    obtain ⟨S, hS, rfl⟩ := (law_worlds_iff h).mp hx
    dsimp only at hq
    rw [lawSome_get h1 h2, Option.getD_some] at hq
    obtain ⟨u, hu, rfl⟩ := List.mem_map.mp hq
    obtain ⟨a, b⟩ := law_good_mem.mp hu
    exact ⟨S, hS, u, a, b, rfl⟩
  · rintro ⟨S, hS, u, hu, hc, rfl⟩
    refine ⟨(S, lawSome W S), (law_worlds_iff h).mpr ⟨S, hS, rfl⟩, ?_⟩
    dsimp only
    rw [lawSome_get h1 h2, Option.getD_some]
    exact List.mem_map.mpr ⟨u, law_good_mem.mpr ⟨hu, hc⟩, rfl⟩
theorem nexts_ne {W : Web} (h : WebOk W) (p g : Nat) (hp : p < W.many) (h1 : 1 ≤ g) (h2 : g < W.many) : nextsQ W p g ≠ [] := by
  have wa := wayOf_at h h1 h2
  obtain ⟨u, hu, hc, _⟩ := lawWays_cov ⟨h.lo, h.hi⟩ h1 h2 wa.ok
  have : (u[p]?).getD none ∈ nextsQ W p g := (nexts_memQ h h1 h2).mpr ⟨W.silent, own_world h, u, hu, Cons.congr (fun n _ _ => rfl) hc, rfl⟩
  intro e
  rw [e] at this
  cases this
theorem lkB_some {W : Web} (h : WebOk W) {p g : Nat} (h1 : 1 ≤ g) (h2 : g < W.many) (hp : p < W.many) (hb : lkB W p g = true) : p ≠ g ∧ ∃ o, (nextsQ W p g).headD none = some o ∧ KnownP W p g o := by
  have hlo := h.lo
  unfold lkB at hb
  rw [Bool.and_eq_true, Bool.and_eq_true] at hb
  obtain ⟨hb1, hb2, hb3⟩ := hb
  have hpg : p ≠ g := by simpa using hb1
  refine ⟨hpg, ?_⟩
  have hne := nexts_ne h p g hp h1 h2
  have hh : (nextsQ W p g).headD none ∈ nextsQ W p g := by
    cases hq : nextsQ W p g with
    | nil => exact absurd hq hne
    | cons a r => exact List.mem_cons_self
  have hs := List.all_eq_true.mp hb2 _ hh
  obtain ⟨o, ho⟩ := Option.isSome_iff_exists.mp hs
  refine ⟨o, ho, ?_⟩
  have hall : ∀ q ∈ nextsQ W p g, q = some o := fun q hq => by
    have := List.all_eq_true.mp hb3 q hq
    rw [ho] at this
    simpa using this
  -- of a way that is alike
  have key : ∀ S, World W S → ∀ w, WayOk W.many g w → Cons W S w g → w[p]? = some o ∧ (Sees w g p ∨ W.many < 5) := by
    intro S hS w hw hc
    obtain ⟨u, hu, hpos, hgot⟩ := lawWays_cov ⟨h.lo, h.hi⟩ h1 h2 hw
    have hq := hall _ ((nexts_memQ h h1 h2 (p := p)).mpr ⟨S, hS, u, hu, hc.congr hpos, rfl⟩)
    have hul : p < u.length := by rw [(lawWays_ok ⟨h.lo, h.hi⟩ h1 h2 u hu).len]; exact hp
    have e : u[p]? = some (some o) := by
      rw [List.getElem?_eq_getElem hul] at hq ⊢
      rw [Option.getD_some] at hq
      rw [hq]
    obtain ⟨_, hs⟩ := lawWays_told ⟨h.lo, h.hi⟩ h1 h2 hu hpg e
    have hs' : Sees w g p ∨ W.many < 5 := hs.imp (fun ⟨n, hn⟩ => ⟨n, by rw [← hpos]; exact hn⟩) id
    have := hgot p hpg hp hs'
    rw [e] at this
    exact ⟨(Option.some.inj this).symm, hs'⟩
  intro S hS w hw hc
  obtain ⟨ho', hs⟩ := key S hS w hw hc
  refine ⟨?_, ho'⟩
  rcases hs with hs | hs
  · exact hs
  · by_cases hse : Sees w g p
    · exact hse
    · exfalso
      obtain ⟨on1, on2⟩ := otherN_ok (o := o) hlo hp
      have hw' := way_set (o := otherN W.many p o) hw hpg on2
      have hc' := hc.congr (posM_unseen (o := otherN W.many p o) hse)
      have := (key S hS _ hw' hc').1
      rw [List.getElem?_set, if_pos rfl, if_pos (by rw [hw.len]; exact hp)] at this
      exact on1 (Option.some.inj this)
theorem lkB_of {W : Web} (h : WebOk W) {p g : Nat} (h1 : 1 ≤ g) (h2 : g < W.many) (hp : p < W.many) (hpg : p ≠ g) {o : Option Nat} (hk : KnownP W p g o) : lkB W p g = true := by
  have hall : ∀ q ∈ nextsQ W p g, q = some o := fun q hq => by
    obtain ⟨S, hS, u, hu, hc, rfl⟩ := (nexts_memQ h h1 h2).mp hq
    have ho := lawWays_ok ⟨h.lo, h.hi⟩ h1 h2 u hu
    obtain ⟨a, b⟩ := hk S hS _ ho.way hc
    have hn := ho.seen p hpg a
    rw [toW_get] at b
    cases e : u[p]? with
    | none => rw [e] at b; cases b
    | some x =>
      rw [e] at b hn
      cases x with
      | none => exact absurd rfl hn
      | some o' => simp at b; subst b; rfl
  unfold lkB
  rw [Bool.and_eq_true, Bool.and_eq_true]
  refine ⟨by simpa using hpg, List.all_eq_true.mpr fun q hq => by rw [hall q hq]; rfl, List.all_eq_true.mpr fun q hq => ?_⟩
  have hh : (nextsQ W p g).headD none = some o := by
    cases hq' : nextsQ W p g with
    | nil => rw [hq'] at hq; cases hq
    | cons a r => exact hall a (by rw [hq']; exact List.mem_cons_self)
  rw [hh, hall q hq]
  simp
theorem known_there {W : Web} (h : WebOk W) {p g : Nat} (h1 : 1 ≤ g) (h2 : g < W.many) (hp : p < W.many) {o : Option Nat} (hk : KnownP W p g o) : o = thereW W p g := by
  have wa := wayOf_at h h1 h2
  have := (hk W.silent (own_world h) _ wa.ok fun n _ _ => rfl).2
  unfold thereW
  rw [this]; rfl
theorem kn_lk {W : Web} (h : WebOk W) {p g : Nat} (h1 : 1 ≤ g) (h2 : g < W.many) (hp : p < W.many) : knB W p g = lkB W p g := by
  rw [Bool.eq_iff_iff]
  constructor
  · intro hb
    unfold knB at hb
    rw [Bool.and_eq_true] at hb
    have hpg : p ≠ g := by simpa using hb.1
    exact lkB_of h h1 h2 hp hpg ((twin_none h h1 h2 hp hpg).mp (Option.isNone_iff_eq_none.mp hb.2))
  · intro hb
    obtain ⟨hpg, o, _, hk⟩ := lkB_some h h1 h2 hp hb
    have := known_there h h1 h2 hp hk
    subst this
    unfold knB
    rw [Bool.and_eq_true]
    exact ⟨by simpa using hpg, Option.isNone_iff_eq_none.mpr ((twin_none h h1 h2 hp hpg).mpr hk)⟩
theorem knD_lk {W : Web} (h : WebOk W) {p g : Nat} (h1 : 1 ≤ g) (h2 : g < W.many) (hp : p < W.many) (hb : lkB W p g = true) : knD W p g = lkD' W p g := by
  obtain ⟨hpg, o, ho, hk⟩ := lkB_some h h1 h2 hp hb
  have := known_there h h1 h2 hp hk
  unfold knD lkD'
  rw [ho, ← this]; rfl
theorem known_eq {W : Web} (h : WebOk W) : knownL W = lawKnown W := by
  unfold knownL lawKnown
  have : ∀ ps : List Nat, (∀ p ∈ ps, p < W.many) → ps.flatMap (knP W) = ps.flatMap (lkP W) := by
    intro ps
    induction ps with
    | nil => intro _; rfl
    | cons p ps ih =>
      intro hp
      rw [List.flatMap_cons, List.flatMap_cons, ih fun q hq => hp q (List.mem_cons_of_mem _ hq)]
      congr 1
      have hp0 := hp p List.mem_cons_self
      unfold knP lkP
      have hf : (List.range' 1 (W.many - 1)).filter (knB W p) = (List.range' 1 (W.many - 1)).filter (lkB W p) := List.filter_congr fun g hg => by
        have := List.mem_range'_1.mp hg
        exact kn_lk h (by omega) (by omega) hp0
      rw [hf]
      refine List.map_congr_left fun g hg => ?_
      obtain ⟨a, b⟩ := List.mem_filter.mp hg
      have := List.mem_range'_1.mp a
      exact knD_lk h (by omega) (by omega) hp0 b
  exact this _ fun p hp => by have := List.mem_range'_1.mp hp; omega
end HC
end
section
/-! Plain lemmas: twins are alike. -/
namespace HC
open PySem PySem.Spec L2 HD
theorem twinO_some {W : Web} (h : WebOk W) {p g : Nat} (h1 : 1 ≤ g) (h2 : g < W.many) {V : Web} (e : twinO W p g = some V) : ∃ S, World W S ∧ ∃ δ ∈ givingL W.many S g (dueW W g) (aWays W.many g), isTw W p g δ = true ∧ V = twWeb W (S, someW W S) p g δ := by
  unfold twinO at e
  obtain ⟨x, hx, e⟩ := List.exists_of_findSome?_eq_some e
  obtain ⟨S, hS, rfl⟩ := (prog_worlds h).mp hx
  unfold twinF at e
  dsimp only at e
  rw [someW_get h1 h2, Option.getD_some] at e
  obtain ⟨δ, hd, rfl⟩ := Option.map_eq_some_iff.mp e
  exact ⟨S, hS, δ, List.mem_of_find?_eq_some hd, List.find?_some hd, rfl⟩
theorem head_mem {α : Type} {d : α} : ∀ {l : List α}, l ≠ [] → l.head?.getD d ∈ l
  | [], h => absurd rfl h
  | a :: l, _ => by simp
/-- what a way of the twin is -/
structure AlikeWay (W : Web) (S : List Nat) (k : Nat) (w : List (Option Nat)) : Prop where
  ok : WayOk W.many k w
  co : Cons W S w k
theorem tw_other {W : Web} (h : WebOk W) {S : List Nat} (hS : World W S) {k : Nat} (h1 : 1 ≤ k) (h2 : k < W.many) : AlikeWay W S k (fillW W.many (wayOf W k) ((((someW W S)[k - 1]?).getD []).head?.getD [])) := by
  have hlo := h.lo
  rw [someW_get h1 h2, Option.getD_some]
  obtain ⟨w, hw, hc⟩ := hS.2 k h1 h2
  obtain ⟨δ0, hd0, _⟩ := way_give h h1 h2 hw hc
  have hne : givingL W.many S k (dueW W k) (aWays W.many k) ≠ [] := fun e => by rw [e] at hd0; cases hd0
  have hm := head_mem (d := ([] : Dc)) hne
  generalize (givingL W.many S k (dueW W k) (aWays W.many k)).head?.getD [] = δ at hm
  obtain ⟨hi, f1, f2, f3⟩ := give_way h h1 h2 hm
  obtain ⟨g1, g2⟩ := hi.fill h2 (wayOf_at h h1 h2).ok
  exact ⟨g1, f3.congr fun n => walk_same (by omega) g1 f1 g2 f2 n⟩
theorem tw_goal {W : Web} (h : WebOk W) {S : List Nat} {p g : Nat} (h1 : 1 ≤ g) (h2 : g < W.many) (hp : p < W.many) (hpg : p ≠ g) {δ : Dc} (hd : δ ∈ givingL W.many S g (dueW W g) (aWays W.many g)) (ht : isTw W p g δ = true) :
    AlikeWay W S g (twWay W p g δ) ∧ (twWay W p g δ)[p]? ≠ some (thereW W p g) := by
  have hlo := h.lo
  obtain ⟨hi, f1, f2, f3⟩ := give_way h h1 h2 hd
  obtain ⟨g1, g2⟩ := hi.fill h2 (wayOf_at h h1 h2).ok
  have hc : Cons W S (fillW W.many (wayOf W g) δ) g := f3.congr fun n => walk_same (by omega) g1 f1 g2 f2 n
  have hlen : p < (fillW W.many (wayOf W g) δ).length := by rw [fillW_len]; exact hp
  unfold twWay
  have hne : ¬ δ.lookup p = some (thereW W p g) := by unfold isTw at ht; simpa using ht
  cases q : δ.lookup p with
  | some o =>
    have e : (fillW W.many (wayOf W g) δ)[p]? = some o := ((g2 p o).mp q).2.2
    have es : (fillW W.many (wayOf W g) δ).set p o = fillW W.many (wayOf W g) δ := by
      apply List.ext_getElem?
      intro i
      by_cases hip : p = i
      · subst hip; rw [List.getElem?_set, if_pos rfl, if_pos hlen, e]
      · rw [List.getElem?_set_ne hip]
    rw [Option.getD_some, es]
    refine ⟨⟨g1, hc⟩, fun z => hne ?_⟩
    rw [e] at z
    rw [q, z]
  | none =>
    have hns : ¬ Sees (fillW W.many (wayOf W g) δ) g p := fun hs => by
      have := (g2 p _).mpr ⟨hpg, hs, way_get g1 hp⟩
      rw [q] at this
      cases this
    obtain ⟨o1, o2⟩ := otherN_ok (o := thereW W p g) hlo hp
    rw [Option.getD_none]
    refine ⟨⟨way_set g1 hpg o2, hc.congr (posM_unseen hns)⟩, fun z => ?_⟩
    rw [List.getElem?_set, if_pos rfl, if_pos hlen] at z
    exact o1 (Option.some.inj z)
theorem twWays_get (W : Web) (x : Wd) {k : Nat} (h1 : 1 ≤ k) (h2 : k < W.many) : (twWays W x)[k - 1]? = some (fillW W.many (wayOf W k) (((x.2[k - 1]?).getD []).head?.getD [])) := by
  unfold twWays
  rw [List.getElem?_map, List.getElem?_range' (by omega)]
  simp only [Option.map_some, Nat.one_mul, Nat.zero_add]
  rw [show k - 1 + 1 = k by omega]
theorem twin_good {W : Web} (h : WebOk W) {p g : Nat} (h1 : 1 ≤ g) (h2 : g < W.many) (hp : p < W.many) (hpg : p ≠ g) {V : Web} (e : twinO W p g = some V) :
    WebOk V ∧ V.many = W.many ∧ thereW V p g ≠ thereW W p g ∧ ∀ k, 1 ≤ k → k < W.many → ansL W.silent (wayOf W k) k (2 * W.many) = ansL V.silent (wayOf V k) k (2 * W.many) := by
  have hlo := h.lo
  have hhi := h.hi
  obtain ⟨S, hS, δ, hd, ht, rfl⟩ := twinO_some h h1 h2 e
  obtain ⟨t1, t2⟩ := tw_goal h h1 h2 hp hpg hd ht
  have hways : ∀ k, 1 ≤ k → k < W.many → ∃ w, (twWeb W (S, someW W S) p g δ).ways[k - 1]? = some w ∧ AlikeWay W S k w := by
    intro k k1 k2
    unfold twWeb
    dsimp only
    by_cases hk : k = g
    · subst hk
      refine ⟨twWay W p k δ, ?_, t1⟩
      rw [List.getElem?_set, if_pos rfl, if_pos (by rw [twWays_len]; omega)]
    · refine ⟨_, ?_, tw_other h hS k1 k2⟩
      rw [List.getElem?_set_ne (by omega), twWays_get W _ k1 k2]
  have hV : WebOk (twWeb W (S, someW W S) p g δ) := ⟨hlo, hhi, hS.1.sort, hS.1.lt, by unfold twWeb; dsimp only; rw [List.length_set, twWays_len], fun k k1 k2 => by
    obtain ⟨w, a, b⟩ := hways k k1 k2
    exact ⟨w, a, b.ok⟩⟩
  have hof : ∀ k w, (twWeb W (S, someW W S) p g δ).ways[k - 1]? = some w → wayOf (twWeb W (S, someW W S) p g δ) k = w := fun k w a => by unfold wayOf; rw [a]; rfl
  refine ⟨hV, rfl, ?_, fun k k1 k2 => ?_⟩
  · have hg : (twWeb W (S, someW W S) p g δ).ways[g - 1]? = some (twWay W p g δ) := by
      unfold twWeb
      dsimp only
      rw [List.getElem?_set, if_pos rfl, if_pos (by rw [twWays_len]; omega)]
    intro z
    apply t2
    have hw := hof g _ hg
    unfold thereW at z
    rw [hw] at z
    rw [way_get t1.ok hp, z]; rfl
  · obtain ⟨w, a, b⟩ := hways k k1 k2
    rw [hof k w a]
    unfold ansL
    refine List.map_congr_left fun n hn => ?_
    have := List.mem_range'_1.mp hn
    exact (b.co (n + 1) (by omega) (by omega)).symm
/-! ### a triple among the known -/
theorem eqD_tri (a b c d : Nat) (o o' : Option Nat) : eqD (.tup [.int (a : Int), .int (b : Int), dO o]) (.tup [.int (c : Int), .int (d : Int), dO o']) = decide (a = c ∧ b = d ∧ o = o') := by
  rw [eqD_tup, eqDs_cons, eqDs_cons, eqDs_cons, eqDs_nil, eqD_dOO, eqD_int, eqD_int, Bool.eq_iff_iff]
  simp only [Bool.and_eq_true, decide_eq_true_eq, Bool.and_true]
  constructor
  · rintro ⟨x, y, z⟩; exact ⟨by omega, by omega, z⟩
  · rintro ⟨x, y, z⟩; exact ⟨by omega, by omega, z⟩
theorem fit_known {W : Web} (n : Nat) : fit (n + 2) (.lst (knownL W)) = true := by
  rw [fit_lst, List.all_eq_true]
  intro d hd
  unfold knownL at hd
  obtain ⟨p, _, hd⟩ := List.mem_flatMap.mp hd
  obtain ⟨g, _, rfl⟩ := List.mem_map.mp hd
  unfold knD
  rw [fit_tup]
  simp [fit_dO]
theorem known_len (W : Web) (hhi : W.many ≤ 6) : (knownL W).length ≤ 1000 := by
  unfold knownL
  have : ∀ p, (knP W p).length ≤ 5 := fun p => by
    unfold knP
    rw [List.length_map]
    refine Nat.le_trans (List.length_filter_le _ _) ?_
    rw [List.length_range']; omega
  refine Nat.le_trans (flatMap_len2 (n := 5) this _) ?_
  rw [List.length_range']; omega
theorem in_known {W : Web} (h : WebOk W) {p g : Nat} (h1 : 1 ≤ g) (h2 : g < W.many) (hp : p < W.many) (hpg : p ≠ g) : fIn false (knD W p g) (.lst (knownL W)) = some (.bl (twinO W p g).isNone) := by
  have hlo := h.lo
  have hfx : fit 8 (knD W p g) = true := by unfold knD; rw [fit_tup]; simp [fit_dO]
  have e0 : fInF false (knD W p g) (.lst (knownL W)) = none := by
    unfold fInF seqOf
    dsimp only
    rw [if_neg]
    rintro ⟨a, _⟩
    unfold knD at a
    cases a
  unfold fIn
  rw [e0]
  dsimp only
  unfold fInD
  dsimp only
  rw [if_pos ⟨hfx, fit_known 6⟩]
  have : ((knownL W).any fun y => eqD y (knD W p g)) = (twinO W p g).isNone := by
    rw [Bool.eq_iff_iff, List.any_eq_true]
    constructor
    · rintro ⟨d, hd, e⟩
      unfold knownL at hd
      obtain ⟨p', hp', hd⟩ := List.mem_flatMap.mp hd
      obtain ⟨g', hg', rfl⟩ := List.mem_map.mp hd
      unfold knD at e
      rw [eqD_tri] at e
      obtain ⟨rfl, rfl, _⟩ := of_decide_eq_true e
      have := (List.mem_filter.mp hg').2
      unfold knB at this
      rw [Bool.and_eq_true] at this
      exact this.2
    · intro hn
      refine ⟨knD W p g, ?_, ?_⟩
      · unfold knownL
        refine List.mem_flatMap.mpr ⟨p, List.mem_range'_1.mpr (by omega), List.mem_map.mpr ⟨g, List.mem_filter.mpr ⟨List.mem_range'_1.mpr (by omega), ?_⟩, rfl⟩⟩
        unfold knB
        rw [Bool.and_eq_true]
        exact ⟨by simpa using hpg, hn⟩
      · unfold knD
        rw [eqD_tri]
        simp
  rw [this]
  rfl
end HC
end
section
/-! Plain lemmas: who is silent. -/
namespace HC
open PySem PySem.Spec L2 HD
def silsW (W : Web) : List (List Nat) := (worldsW W).map (·.1)
theorem silsW_mem {W : Web} (h : WebOk W) {S : List Nat} : S ∈ silsW W ↔ World W S := by
  unfold silsW
  rw [List.mem_map]
  constructor
  · rintro ⟨x, hx, rfl⟩
    obtain ⟨S, hS, rfl⟩ := (prog_worlds h).mp hx
    exact hS
  · intro hS
    exact ⟨(S, someW W S), (prog_worlds h).mpr ⟨S, hS, rfl⟩, rfl⟩
def sureW (W : Web) : List Nat := (List.range' 0 W.many).filter fun p => ((silsW W).filter fun S => !decide (p ∈ S)).isEmpty
def someQ (W : Web) : List Nat := (List.range' 0 W.many).filter fun p => !((silsW W).filter fun S => decide (p ∈ S)).isEmpty
def perhW (W : Web) : List Nat := (someQ W).filter fun p => !decide (p ∈ sureW W)
theorem fit_dPs (n : Nat) (L : List (List Nat)) : fit (n + 2) (.lst (L.map dP)) = true := by
  rw [fit_lst, List.all_eq_true]
  intro d hd
  obtain ⟨Q, _, rfl⟩ := List.mem_map.mp hd
  unfold dP
  rw [fit_tup]
  exact fit_dNs _ _
theorem fEq_dPs_nil (L : List (List Nat)) : fEq (.lst (L.map dP)) (.lst []) = some (.bl L.isEmpty) := by
  cases L with
  | nil => exact fEq_nil
  | cons Q L => exact fEq_cn (dP Q) (L.map dP) (fit_dPs 6 (Q :: L))
theorem fNe_dPs_nil (L : List (List Nat)) : fNe (.lst (L.map dP)) (.lst []) = some (.bl (!L.isEmpty)) := by
  cases L with
  | nil => exact fNe_nil
  | cons Q L => exact fNe_cn (dP Q) (L.map dP) (fit_dPs 6 (Q :: L))
theorem compL_dP {tg : D → Dl → Option Dl} {c : EM Bool} {e : EM D} {lw : Dl} {rw : Rw} (b : List Nat → Bool) (xs : List (List Nat)) (h : ∀ x ∈ xs, ∃ l1, tg (dP x) lw = some l1 ∧ c l1 rw = .ok (b x, rw) ∧ e l1 rw = .ok (dP x, rw)) : compL tg c e lw (xs.map dP) rw = .ok ((xs.filter b).map dP, rw) := by
  induction xs with
  | nil => rfl
  | cons x xs ih =>
    obtain ⟨l1, h1, h2, h3⟩ := h x List.mem_cons_self
    have ih := ih fun y hy => h y (List.mem_cons_of_mem _ hy)
    rw [List.map_cons]
    unfold compL
    rw [h1]
    cases q : b x with
    | true =>
      rw [List.filter_cons, if_pos q]
      simp only [h2, h3, q, noX_ok, bind_ok, if_true, ih]
      rfl
    | false =>
      rw [List.filter_cons, if_neg (by rw [q]; simp)]
      simp only [h2, q, noX_ok, bind_ok, Bool.false_eq_true, if_false, ih]
theorem worldsW_len {W : Web} (h : WebOk W) : (worldsW W).length ≤ 32 := by
  unfold worldsW
  refine Nat.le_trans (List.length_filter_le _ _) ?_
  rw [List.length_map]
  unfold aSil
  rw [(silSort_perm _).length_eq]
  have : ∀ (ps : List Nat) (L : List (List Nat)), (subs (seenW W) ps L).length ≤ L.length * 2 ^ ps.length := by
    intro ps
    induction ps with
    | nil => intro L; simp [subs]
    | cons p ps ih =>
      intro L
      unfold subs
      refine Nat.le_trans (ih _) ?_
      rw [List.length_cons, Nat.pow_succ, Nat.mul_comm (2 ^ ps.length) 2, ← Nat.mul_assoc]
      refine Nat.mul_le_mul_right _ ?_
      split
      · omega
      · simp; omega
  refine Nat.le_trans (this _ _) ?_
  rw [List.length_singleton, Nat.one_mul, List.length_range']
  have := h.hi
  exact Nat.le_trans (Nat.pow_le_pow_right (by decide) (show W.many - 1 ≤ 5 by omega)) (by decide)
def qS : EM D := (eComp (aRng rng1 (aCons (eBin fIx (eV 0) (eK (.int 0))) aNil)) (gN 6) (toB (eBin fEq (eComp (aItems (eV 1)) (gN 4) (toB (eBin (fIn true) (eV 6) (eV 4))) (eV 4) [4]) (eLst aNil))) (eV 6) [6])
def qP : EM D := (eComp (aRng rng1 (aCons (eBin fIx (eV 0) (eK (.int 0))) aNil)) (gN 6) (toB (eBin fNe (eComp (aItems (eV 1)) (gN 4) (toB (eBin (fIn false) (eV 6) (eV 4))) (eV 4) [4]) (eLst aNil))) (eV 6) [6])
theorem rng_many {W : Web} (h : WebOk W) : rng1 [.int (W.many : Int)] = some (dNs (List.range' 0 W.many)) := by
  rw [← rangeD_dNs]
  exact rng1_of' rfl (by have := h.hi; omega)
theorem qS_ok {W : Web} {rw : Rw} (h : WebOk W) (x2 x3 x4 x5 x6 : Sl) : qS [.val (dWeb W), .val (.lst ((silsW W).map dP)), x2, x3, x4, x5, x6] rw = .ok (.lst (dNs (sureW W)), rw) := by
  have hhi := h.hi
  have i0 := ix0 W
  have hr := rng_many h
  have hl : (dNs (List.range' 0 W.many)).length ≤ sizeLine := sl_big (by rw [dNs_len, List.length_range']; omega)
  have hl2 : ((silsW W).map dP).length ≤ sizeLine := sl_big (by unfold silsW; rw [List.length_map, List.length_map]; have := worldsW_len h; omega)
  have hw : wipeD [.val (dWeb W), .val (.lst ((silsW W).map dP)), x2, x3, x4, x5, x6] [6] = [.val (dWeb W), .val (.lst ((silsW W).map dP)), x2, x3, x4, x5, .no] := rfl
  have hz : (0 : Nat) ≤ sizeLine := Nat.zero_le _
  have ec := compL_nat (tg := gN 6) (c := toB (eBin fEq (eComp (aItems (eV 1)) (gN 4) (toB (eBin (fIn true) (eV 6) (eV 4))) (eV 4) [4]) (eLst aNil))) (e := eV 6) (lw := [.val (dWeb W), .val (.lst ((silsW W).map dP)), x2, x3, x4, x5, .no]) (rw := rw) (fun p => ((silsW W).filter fun S => !decide (p ∈ S)).isEmpty) (List.range' 0 W.many) fun p _ => ⟨[.val (dWeb W), .val (.lst ((silsW W).map dP)), x2, x3, x4, x5, .val (.int (p : Int))], rfl, by
    have e2 := compL_dP (tg := gN 4) (c := toB (eBin (fIn true) (eV 6) (eV 4))) (e := eV 4) (lw := [.val (dWeb W), .val (.lst ((silsW W).map dP)), x2, x3, .no, x5, .val (.int (p : Int))]) (rw := rw) (fun S => !decide (p ∈ S)) (silsW W) fun S _ => ⟨[.val (dWeb W), .val (.lst ((silsW W).map dP)), x2, x3, .val (dP S), x5, .val (.int (p : Int))], rfl, by
      unfold dP
      simp -implicitDefEqProofs only [toB_ap, eBin_ap, eV_ap, List.getElem?_cons_succ, List.getElem?_cons_zero, getV_val, bind_ok, fIn_dNsT, if_true, ofO_some, toBK_bl], rfl⟩
    have hw2 : wipeD [.val (dWeb W), .val (.lst ((silsW W).map dP)), x2, x3, x4, x5, .val (.int (p : Int))] [4] = [.val (dWeb W), .val (.lst ((silsW W).map dP)), x2, x3, .no, x5, .val (.int (p : Int))] := rfl
    have ef := fEq_dPs_nil ((silsW W).filter fun S => !decide (p ∈ S))
    generalize dWeb W = DW at *
    simp -implicitDefEqProofs only [toB_ap, eBin_ap, eComp_ap, aItems_ap, eV_ap, List.getElem?_cons_succ, List.getElem?_cons_zero, getV_val, bind_ok, itemsOf_lst, ofO_some, hl2, if_true, hw2, e2, eLst_ap, aNil_ap, List.length_nil, hz, ef, toBK_bl], rfl⟩
  unfold qS sureW
  generalize dWeb W = DW at *
  simp -implicitDefEqProofs only [eComp_ap, aRng_ap, aCons_ap, aNil_ap, eBin_ap, eV_ap, eK_ap, List.getElem?_cons_succ, List.getElem?_cons_zero, getV_val, bind_ok, i0, ofO_some, hr, hl, if_true, hw, ec]
theorem qP_ok {W : Web} {rw : Rw} (h : WebOk W) (x2 x3 x4 x5 x6 : Sl) : qP [.val (dWeb W), .val (.lst ((silsW W).map dP)), x2, x3, x4, x5, x6] rw = .ok (.lst (dNs (someQ W)), rw) := by
  have hhi := h.hi
  have i0 := ix0 W
  have hr := rng_many h
  have hl : (dNs (List.range' 0 W.many)).length ≤ sizeLine := sl_big (by rw [dNs_len, List.length_range']; omega)
  have hl2 : ((silsW W).map dP).length ≤ sizeLine := sl_big (by unfold silsW; rw [List.length_map, List.length_map]; have := worldsW_len h; omega)
  have hw : wipeD [.val (dWeb W), .val (.lst ((silsW W).map dP)), x2, x3, x4, x5, x6] [6] = [.val (dWeb W), .val (.lst ((silsW W).map dP)), x2, x3, x4, x5, .no] := rfl
  have hz : (0 : Nat) ≤ sizeLine := Nat.zero_le _
  have ec := compL_nat (tg := gN 6) (c := toB (eBin fNe (eComp (aItems (eV 1)) (gN 4) (toB (eBin (fIn false) (eV 6) (eV 4))) (eV 4) [4]) (eLst aNil))) (e := eV 6) (lw := [.val (dWeb W), .val (.lst ((silsW W).map dP)), x2, x3, x4, x5, .no]) (rw := rw) (fun p => !((silsW W).filter fun S => decide (p ∈ S)).isEmpty) (List.range' 0 W.many) fun p _ => ⟨[.val (dWeb W), .val (.lst ((silsW W).map dP)), x2, x3, x4, x5, .val (.int (p : Int))], rfl, by
    have e2 := compL_dP (tg := gN 4) (c := toB (eBin (fIn false) (eV 6) (eV 4))) (e := eV 4) (lw := [.val (dWeb W), .val (.lst ((silsW W).map dP)), x2, x3, .no, x5, .val (.int (p : Int))]) (rw := rw) (fun S => decide (p ∈ S)) (silsW W) fun S _ => ⟨[.val (dWeb W), .val (.lst ((silsW W).map dP)), x2, x3, .val (dP S), x5, .val (.int (p : Int))], rfl, by
      unfold dP
      simp -implicitDefEqProofs only [toB_ap, eBin_ap, eV_ap, List.getElem?_cons_succ, List.getElem?_cons_zero, getV_val, bind_ok, fIn_dNsT, Bool.false_eq_true, if_false, ofO_some, toBK_bl], rfl⟩
    have hw2 : wipeD [.val (dWeb W), .val (.lst ((silsW W).map dP)), x2, x3, x4, x5, .val (.int (p : Int))] [4] = [.val (dWeb W), .val (.lst ((silsW W).map dP)), x2, x3, .no, x5, .val (.int (p : Int))] := rfl
    have ef := fNe_dPs_nil ((silsW W).filter fun S => decide (p ∈ S))
    generalize dWeb W = DW at *
    simp -implicitDefEqProofs only [toB_ap, eBin_ap, eComp_ap, aItems_ap, eV_ap, List.getElem?_cons_succ, List.getElem?_cons_zero, getV_val, bind_ok, itemsOf_lst, ofO_some, hl2, if_true, hw2, e2, eLst_ap, aNil_ap, List.length_nil, hz, ef, toBK_bl], rfl⟩
  unfold qP someQ
  generalize dWeb W = DW at *
  simp -implicitDefEqProofs only [eComp_ap, aRng_ap, aCons_ap, aNil_ap, eBin_ap, eV_ap, eK_ap, List.getElem?_cons_succ, List.getElem?_cons_zero, getV_val, bind_ok, i0, ofO_some, hr, hl, if_true, hw, ec]
theorem sure_mem {W : Web} (h : WebOk W) {p : Nat} : p ∈ sureW W ↔ p < W.many ∧ ∀ S, World W S → p ∈ S := by
  unfold sureW
  rw [List.mem_filter, List.mem_range'_1, List.isEmpty_iff, List.filter_eq_nil_iff]
  constructor
  · rintro ⟨a, b⟩
    refine ⟨by omega, fun S hS => ?_⟩
    have := b S ((silsW_mem h).mpr hS)
    simpa using this
  · rintro ⟨a, b⟩
    refine ⟨by omega, fun S hS => ?_⟩
    have := b S ((silsW_mem h).mp hS)
    simpa using this
theorem some_mem {W : Web} (h : WebOk W) {p : Nat} : p ∈ someQ W ↔ p < W.many ∧ ∃ S, World W S ∧ p ∈ S := by
  unfold someQ
  rw [List.mem_filter, List.mem_range'_1]
  constructor
  · rintro ⟨a, b⟩
    refine ⟨by omega, ?_⟩
    cases q : (silsW W).filter fun S => decide (p ∈ S) with
    | nil => rw [q] at b; cases b
    | cons S L =>
      have hm : S ∈ (silsW W).filter fun S => decide (p ∈ S) := by rw [q]; exact List.mem_cons_self
      obtain ⟨c, d⟩ := List.mem_filter.mp hm
      exact ⟨S, (silsW_mem h).mp c, of_decide_eq_true d⟩
  · rintro ⟨a, S, hS, hp⟩
    refine ⟨by omega, ?_⟩
    have hm : S ∈ (silsW W).filter fun S => decide (p ∈ S) := List.mem_filter.mpr ⟨(silsW_mem h).mpr hS, decide_eq_true hp⟩
    cases q : (silsW W).filter fun S => decide (p ∈ S) with
    | nil => rw [q] at hm; cases hm
    | cons _ _ => rfl
theorem perh_mem {W : Web} (h : WebOk W) {p : Nat} : p ∈ perhW W ↔ p ∈ someQ W ∧ p ∉ sureW W := by
  unfold perhW
  rw [List.mem_filter]
  simp
theorem sure_pw (W : Web) : (sureW W).Pairwise (· < ·) := List.Pairwise.sublist List.filter_sublist (List.pairwise_lt_range' (s := 0) (n := W.many))
theorem perh_pw (W : Web) : (perhW W).Pairwise (· < ·) := List.Pairwise.sublist (List.filter_sublist.trans List.filter_sublist) (List.pairwise_lt_range' (s := 0) (n := W.many))
end HC
end
section
namespace K08
open PySem PySem.Spec L2 HD HC
def lb1 : SM := (sTold2 9 (eCall d_quiet (aCons (eV 3) aNil)) (tNot' (toB (eCall d__law_alike (aCons (eV 9) (aCons (eTup (aCons (eV 6) (aCons (eV 7) aNil))) aNil))))))
def lb2 : SM := (sIf (tAnd' (toB (eBin fEq (eArgs fLen (aCons (eV 11) aNil)) (eK (.int 2)))) (toB (eBin (fIn false) (eBin fIx (eV 11) (eK (.int 1))) (eBin fAdd (eV 6) (eV 7))))) (sRet (eK (.bl false))) sNext)
def lb3 : SM := (sFor (aItems (eCall d__law_answers (aCons (eV 3) (aCons (eV 10) (aCons (eBin fMul (eK (.int 2)) (eBin fIx (eV 3) (eK (.int 0)))) aNil))))) (gN 11) lb2)
def lb4 : SM := (sSeq (sSet 3 (eCall d__law_web (aCons (eV 1) (aCons (eK (.int 2)) (aCons (eBin fIx (eLst (aCons (eK (.int 4)) (aCons (eK (.int 4)) (aCons (eK (.int 4)) (aCons (eK (.int 6)) aNil))))) (eCall d__law_taken (aCons (eV 1) (aCons (eK (.int 4)) aNil)))) aNil))))) (sSeq (sSet 4 (eComp (aItems (eCall d__law_worlds (aCons (eV 3) aNil))) (gT 2 (gsCons (gN 12) (gsCons (gN 13) gsNil))) cYes (eV 12) [12, 13])) (sSeq (sSet 5 (eLRg1 (eBin fIx (eV 3) (eK (.int 0))))) (sSeq (sSet 6 (eComp (aItems (eV 5)) (gN 14) (toB (eBin fEq (eComp (aItems (eV 4)) (gN 12) (toB (eBin (fIn true) (eV 14) (eV 12))) (eV 12) [12]) (eLst aNil))) (eV 14) [14])) (sSeq (sSet 7 (eComp (aItems (eV 5)) (gN 14) (tAnd' (toB (eBin (fIn true) (eV 14) (eV 6))) (toB (eBin fNe (eComp (aItems (eV 4)) (gN 12) (toB (eBin (fIn false) (eV 14) (eV 12))) (eV 12) [12]) (eLst aNil)))) (eV 14) [14])) (sSeq (sFor (aRng rng1 (aCons (eK (.int 2)) aNil)) (gN 8) lb1) (sFor (aRng rng2 (aCons (eK (.int 1)) (aCons (eBin fIx (eV 3) (eK (.int 0))) aNil))) (gN 10) lb3)))))))
theorem lb_eq : b_law = (sSeq (sFor (aRng rng1 (aCons (eK (.int 2)) aNil)) (gN 2) lb4) (sRet (eK (.bl true)))) := rfl
@[simp] theorem noRet_next {g : SM} {l l' : Dl} {rw rw' : Rw} (h : g l rw = .ok (.next, l', rw')) : noRet g l rw = .ok (.next, l', rw') := by unfold noRet; rw [h]
theorem sRetT2_ap (i : Nat) (g : EM D) (l : Dl) (rw : Rw) : sRetT2 i g l rw = match l[i]? with
  | some (.own (.lst ds)) => (g l rw).bind fun p => (match p.1 with
    | .lst es => .ok (.ret (.tup [.lst ds, .lst es]), l, p.2)
    | _ => .stuck)
  | _ => .stuck := rfl
theorem quiet_ok {W : Web} {rw : Rw} (h : WebOk W) : d_quiet [dWeb W] rw = .ok (.tup [.lst (dNs (sureW W)), .lst (dNs (perhW W))], rw) := by
  have hhi := h.hi
  have e1 := need_web_ok (rw := rw) h
  have e2 := all_worlds_ok (rw := rw) h
  have hl1 : ((worldsW W).map dWd).length ≤ sizeLine := sl_big (by rw [List.length_map]; have := worldsW_len h; omega)
  have e3 := compL_mapM (tg := gT 2 (gsCons (gN 4) (gsCons (gN 5) gsNil))) (c := cYes) (e := eV 4) (lw := [.val (dWeb W), .no, .no, .no, .no, .no, .no]) (rw := rw) dWd (fun x => dP x.1) (worldsW W) fun x _ => ⟨[.val (dWeb W), .no, .no, .no, .val (dP x.1), .val (.lst (x.2.map dWs)), .no], rfl, rfl, rfl⟩
  have em : (worldsW W).map (fun x => dP x.1) = (silsW W).map dP := by unfold silsW; rw [List.map_map]; rfl
  rw [em] at e3
  have e4 := qS_ok (rw := rw) h .no .no .no .no .no
  have e5 := qP_ok (rw := rw) h (.own (.lst (dNs (sureW W)))) .no .no .no .no
  have hw : wipeD [.val (dWeb W), .no, .no, .no, .no, .no, .no] [4, 5] = [.val (dWeb W), .no, .no, .no, .no, .no, .no] := rfl
  have e6 := compL_nat (tg := gN 6) (c := tBor 2 (toB (eBin (fIn true) (eV 6) (eV 2)))) (e := eV 6) (lw := [.val (dWeb W), .val (.lst ((silsW W).map dP)), .own (.lst (dNs (sureW W))), .val (.lst (dNs (someQ W))), .no, .no, .no]) (rw := rw) (fun p => !decide (p ∈ sureW W)) (someQ W) fun p _ => ⟨[.val (dWeb W), .val (.lst ((silsW W).map dP)), .own (.lst (dNs (sureW W))), .val (.lst (dNs (someQ W))), .no, .no, .val (.int (p : Int))], rfl, by
    simp -implicitDefEqProofs only [tBor_ap, toB_ap, eBin_ap, eV_ap, List.getElem?_cons_succ, List.getElem?_cons_zero, List.set_cons_succ, List.set_cons_zero, getV_val, bind_ok, fIn_dNs, if_true, ofO_some, toBK_bl, noX_ok], rfl⟩
  have hw6 : wipeD [.val (dWeb W), .val (.lst ((silsW W).map dP)), .own (.lst (dNs (sureW W))), .val (.lst (dNs (someQ W))), .no, .no, .no] [6] = [.val (dWeb W), .val (.lst ((silsW W).map dP)), .own (.lst (dNs (sureW W))), .val (.lst (dNs (someQ W))), .no, .no, .no] := rfl
  have hl6 : (dNs (someQ W)).length ≤ sizeLine := sl_big (by
    rw [dNs_len]
    unfold someQ
    refine Nat.le_trans (List.length_filter_le _ _) ?_
    rw [List.length_range']; omega)
  have eb : b_quiet = (sSeq (noRet (sExpr (eCall d_need_web (aCons (eV 0) aNil)))) (sSeq (noRet (sSet 1 (eComp (aItems (eCall d_all_worlds (aCons (eV 0) aNil))) (gT 2 (gsCons (gN 4) (gsCons (gN 5) gsNil))) cYes (eV 4) [4, 5]))) (sSeq (noRet (sSetO 2 qS)) (sSeq (noRet (sSet 3 qP)) (sRetT2 2 (eComp (aItems (eV 3)) (gN 6) (tBor 2 (toB (eBin (fIn true) (eV 6) (eV 2)))) (eV 6) [6])))))) := rfl
  unfold d_quiet perhW
  rw [dDef1, eb]
  generalize dWeb W = DW at *
  have s1 : noRet (sExpr (eCall d_need_web (aCons (eV 0) aNil))) [.val DW, .no, .no, .no, .no, .no, .no] rw = .ok (.next, [.val DW, .no, .no, .no, .no, .no, .no], rw) := noRet_next (by
    simp -implicitDefEqProofs only [sExpr_ap, eCall_ap, aCons_ap, aNil_ap, eV_ap, List.getElem?_cons_succ, List.getElem?_cons_zero, getV_val, bind_ok, e1])
  have s2 : noRet (sSet 1 (eComp (aItems (eCall d_all_worlds (aCons (eV 0) aNil))) (gT 2 (gsCons (gN 4) (gsCons (gN 5) gsNil))) cYes (eV 4) [4, 5])) [.val DW, .no, .no, .no, .no, .no, .no] rw = .ok (.next, [.val DW, .val (.lst ((silsW W).map dP)), .no, .no, .no, .no, .no], rw) := noRet_next (by
    simp -implicitDefEqProofs only [sSet_ap, eComp_ap, aItems_ap, eCall_ap, aCons_ap, aNil_ap, eV_ap, List.getElem?_cons_succ, List.getElem?_cons_zero, getV_val, bind_ok, e2, itemsOf_lst, ofO_some, hl1, if_true, hw, e3, List.set_cons_succ, List.set_cons_zero])
  have s3 : noRet (sSetO 2 qS) [.val DW, .val (.lst ((silsW W).map dP)), .no, .no, .no, .no, .no] rw = .ok (.next, [.val DW, .val (.lst ((silsW W).map dP)), .own (.lst (dNs (sureW W))), .no, .no, .no, .no], rw) := noRet_next (by
    simp -implicitDefEqProofs only [sSetO_ap, e4, bind_ok, List.set_cons_succ, List.set_cons_zero])
  have s4 : noRet (sSet 3 qP) [.val DW, .val (.lst ((silsW W).map dP)), .own (.lst (dNs (sureW W))), .no, .no, .no, .no] rw = .ok (.next, [.val DW, .val (.lst ((silsW W).map dP)), .own (.lst (dNs (sureW W))), .val (.lst (dNs (someQ W))), .no, .no, .no], rw) := noRet_next (by
    simp -implicitDefEqProofs only [sSet_ap, e5, bind_ok, List.set_cons_succ, List.set_cons_zero])
  simp -implicitDefEqProofs only [List.replicate, sSeq_ap, s1, s2, s3, s4, bind_ok, seqK_next, sRetT2_ap, List.getElem?_cons_succ, List.getElem?_cons_zero, eComp_ap, aItems_ap, eV_ap, getV_val, itemsOf_lst, ofO_some, hl6, if_true, hw6, e6, dFin_ret]
/-! ### the law's -/
def lsils (W : Web) : List (List Nat) := (lawWorlds W).map (·.1)
theorem lsils_mem {W : Web} (h : WebOk W) {S : List Nat} : S ∈ lsils W ↔ S ∈ silsW W := by
  rw [silsW_mem h]
  unfold lsils
  rw [List.mem_map]
  constructor
  · rintro ⟨x, hx, rfl⟩
    obtain ⟨S, hS, rfl⟩ := (law_worlds_iff h).mp hx
    exact hS
  · intro hS
    exact ⟨(S, lawSome W S), (law_worlds_iff h).mpr ⟨S, hS, rfl⟩, rfl⟩
theorem empty_congr {W : Web} (h : WebOk W) (f : List Nat → Bool) : ((lsils W).filter f).isEmpty = ((silsW W).filter f).isEmpty := by
  rw [Bool.eq_iff_iff, List.isEmpty_iff, List.isEmpty_iff, List.filter_eq_nil_iff, List.filter_eq_nil_iff]
  exact ⟨fun z S hS => z S ((lsils_mem h).mpr hS), fun z S hS => z S ((lsils_mem h).mp hS)⟩
theorem lsils_len {W : Web} (h : WebOk W) : (lsils W).length ≤ 32 := by
  unfold lsils
  rw [List.length_map]
  exact lawWorlds_len h
def lS : EM D := (eComp (aItems (eV 5)) (gN 14) (toB (eBin fEq (eComp (aItems (eV 4)) (gN 12) (toB (eBin (fIn true) (eV 14) (eV 12))) (eV 12) [12]) (eLst aNil))) (eV 14) [14])
def lP : EM D := (eComp (aItems (eV 5)) (gN 14) (tAnd' (toB (eBin (fIn true) (eV 14) (eV 6))) (toB (eBin fNe (eComp (aItems (eV 4)) (gN 12) (toB (eBin (fIn false) (eV 14) (eV 12))) (eV 12) [12]) (eLst aNil)))) (eV 14) [14])
theorem lS_ok {W : Web} {rw : Rw} (h : WebOk W) (x0 x1 x2 x3 x6 x7 x8 x9 x10 x11 x12 x13 x14 : Sl) : lS [x0, x1, x2, x3, .val (.lst ((lsils W).map dP)), .val (.lst (dNs (List.range' 0 W.many))), x6, x7, x8, x9, x10, x11, x12, x13, x14] rw = .ok (.lst (dNs (sureW W)), rw) := by
  have hhi := h.hi
  have hl : (dNs (List.range' 0 W.many)).length ≤ sizeLine := sl_big (by rw [dNs_len, List.length_range']; omega)
  have hl2 : ((lsils W).map dP).length ≤ sizeLine := sl_big (by rw [List.length_map]; have := lsils_len h; omega)
  have hw : wipeD [x0, x1, x2, x3, .val (.lst ((lsils W).map dP)), .val (.lst (dNs (List.range' 0 W.many))), x6, x7, x8, x9, x10, x11, x12, x13, x14] [14] = [x0, x1, x2, x3, .val (.lst ((lsils W).map dP)), .val (.lst (dNs (List.range' 0 W.many))), x6, x7, x8, x9, x10, x11, x12, x13, .no] := rfl
  have hz : (0 : Nat) ≤ sizeLine := Nat.zero_le _
  have ec := compL_nat (tg := gN 14) (c := toB (eBin fEq (eComp (aItems (eV 4)) (gN 12) (toB (eBin (fIn true) (eV 14) (eV 12))) (eV 12) [12]) (eLst aNil))) (e := eV 14) (lw := [x0, x1, x2, x3, .val (.lst ((lsils W).map dP)), .val (.lst (dNs (List.range' 0 W.many))), x6, x7, x8, x9, x10, x11, x12, x13, .no]) (rw := rw) (fun p => ((lsils W).filter fun S => !decide (p ∈ S)).isEmpty) (List.range' 0 W.many) fun p _ => ⟨[x0, x1, x2, x3, .val (.lst ((lsils W).map dP)), .val (.lst (dNs (List.range' 0 W.many))), x6, x7, x8, x9, x10, x11, x12, x13, .val (.int (p : Int))], rfl, by
    have e2 := compL_dP (tg := gN 12) (c := toB (eBin (fIn true) (eV 14) (eV 12))) (e := eV 12) (lw := [x0, x1, x2, x3, .val (.lst ((lsils W).map dP)), .val (.lst (dNs (List.range' 0 W.many))), x6, x7, x8, x9, x10, x11, .no, x13, .val (.int (p : Int))]) (rw := rw) (fun S => !decide (p ∈ S)) (lsils W) fun S _ => ⟨[x0, x1, x2, x3, .val (.lst ((lsils W).map dP)), .val (.lst (dNs (List.range' 0 W.many))), x6, x7, x8, x9, x10, x11, .val (dP S), x13, .val (.int (p : Int))], rfl, by
      unfold dP
      simp -implicitDefEqProofs only [toB_ap, eBin_ap, eV_ap, List.getElem?_cons_succ, List.getElem?_cons_zero, getV_val, bind_ok, fIn_dNsT, if_true, ofO_some, toBK_bl], rfl⟩
    have hw2 : wipeD [x0, x1, x2, x3, .val (.lst ((lsils W).map dP)), .val (.lst (dNs (List.range' 0 W.many))), x6, x7, x8, x9, x10, x11, x12, x13, .val (.int (p : Int))] [12] = [x0, x1, x2, x3, .val (.lst ((lsils W).map dP)), .val (.lst (dNs (List.range' 0 W.many))), x6, x7, x8, x9, x10, x11, .no, x13, .val (.int (p : Int))] := rfl
    have ef := fEq_dPs_nil ((lsils W).filter fun S => !decide (p ∈ S))
    simp -implicitDefEqProofs only [toB_ap, eBin_ap, eComp_ap, aItems_ap, eV_ap, List.getElem?_cons_succ, List.getElem?_cons_zero, getV_val, bind_ok, itemsOf_lst, ofO_some, hl2, if_true, hw2, e2, eLst_ap, aNil_ap, List.length_nil, hz, ef, toBK_bl], rfl⟩
  have es : (List.range' 0 W.many).filter (fun p => ((lsils W).filter fun S => !decide (p ∈ S)).isEmpty) = sureW W := by
    unfold sureW
    refine List.filter_congr fun p _ => empty_congr h _
  rw [es] at ec
  unfold lS
  generalize dNs (List.range' 0 W.many) = DR at *
  simp -implicitDefEqProofs only [eComp_ap, aItems_ap, eV_ap, List.getElem?_cons_succ, List.getElem?_cons_zero, getV_val, bind_ok, itemsOf_lst, ofO_some, hl, if_true, hw, ec]
theorem lP_ok {W : Web} {rw : Rw} (h : WebOk W) (x0 x1 x2 x3 x7 x8 x9 x10 x11 x12 x13 x14 : Sl) : lP [x0, x1, x2, x3, .val (.lst ((lsils W).map dP)), .val (.lst (dNs (List.range' 0 W.many))), .val (.lst (dNs (sureW W))), x7, x8, x9, x10, x11, x12, x13, x14] rw = .ok (.lst (dNs (perhW W)), rw) := by
  have hhi := h.hi
  have hl : (dNs (List.range' 0 W.many)).length ≤ sizeLine := sl_big (by rw [dNs_len, List.length_range']; omega)
  have hl2 : ((lsils W).map dP).length ≤ sizeLine := sl_big (by rw [List.length_map]; have := lsils_len h; omega)
  have hw : wipeD [x0, x1, x2, x3, .val (.lst ((lsils W).map dP)), .val (.lst (dNs (List.range' 0 W.many))), .val (.lst (dNs (sureW W))), x7, x8, x9, x10, x11, x12, x13, x14] [14] = [x0, x1, x2, x3, .val (.lst ((lsils W).map dP)), .val (.lst (dNs (List.range' 0 W.many))), .val (.lst (dNs (sureW W))), x7, x8, x9, x10, x11, x12, x13, .no] := rfl
  have hz : (0 : Nat) ≤ sizeLine := Nat.zero_le _
  have ec := compL_nat (tg := gN 14) (c := (tAnd' (toB (eBin (fIn true) (eV 14) (eV 6))) (toB (eBin fNe (eComp (aItems (eV 4)) (gN 12) (toB (eBin (fIn false) (eV 14) (eV 12))) (eV 12) [12]) (eLst aNil))))) (e := eV 14) (lw := [x0, x1, x2, x3, .val (.lst ((lsils W).map dP)), .val (.lst (dNs (List.range' 0 W.many))), .val (.lst (dNs (sureW W))), x7, x8, x9, x10, x11, x12, x13, .no]) (rw := rw) (fun p => !decide (p ∈ sureW W) && !((lsils W).filter fun S => decide (p ∈ S)).isEmpty) (List.range' 0 W.many) fun p _ => ⟨[x0, x1, x2, x3, .val (.lst ((lsils W).map dP)), .val (.lst (dNs (List.range' 0 W.many))), .val (.lst (dNs (sureW W))), x7, x8, x9, x10, x11, x12, x13, .val (.int (p : Int))], rfl, by
    have e2 := compL_dP (tg := gN 12) (c := toB (eBin (fIn false) (eV 14) (eV 12))) (e := eV 12) (lw := [x0, x1, x2, x3, .val (.lst ((lsils W).map dP)), .val (.lst (dNs (List.range' 0 W.many))), .val (.lst (dNs (sureW W))), x7, x8, x9, x10, x11, .no, x13, .val (.int (p : Int))]) (rw := rw) (fun S => decide (p ∈ S)) (lsils W) fun S _ => ⟨[x0, x1, x2, x3, .val (.lst ((lsils W).map dP)), .val (.lst (dNs (List.range' 0 W.many))), .val (.lst (dNs (sureW W))), x7, x8, x9, x10, x11, .val (dP S), x13, .val (.int (p : Int))], rfl, by
      unfold dP
      simp -implicitDefEqProofs only [toB_ap, eBin_ap, eV_ap, List.getElem?_cons_succ, List.getElem?_cons_zero, getV_val, bind_ok, fIn_dNsT, Bool.false_eq_true, if_false, ofO_some, toBK_bl], rfl⟩
    have hw2 : wipeD [x0, x1, x2, x3, .val (.lst ((lsils W).map dP)), .val (.lst (dNs (List.range' 0 W.many))), .val (.lst (dNs (sureW W))), x7, x8, x9, x10, x11, x12, x13, .val (.int (p : Int))] [12] = [x0, x1, x2, x3, .val (.lst ((lsils W).map dP)), .val (.lst (dNs (List.range' 0 W.many))), .val (.lst (dNs (sureW W))), x7, x8, x9, x10, x11, .no, x13, .val (.int (p : Int))] := rfl
    have ef := fNe_dPs_nil ((lsils W).filter fun S => decide (p ∈ S))
    have ei := fIn_dNs true p (sureW W)
    rw [if_pos rfl] at ei
    cases q : decide (p ∈ sureW W) with
    | true =>
      rw [q] at ei
      simp -implicitDefEqProofs only [tAnd_ap, toB_ap, eBin_ap, eV_ap, List.getElem?_cons_succ, List.getElem?_cons_zero, getV_val, bind_ok, ei, ofO_some, toBK_bl, Bool.not_true, Bool.false_eq_true, if_false, Bool.false_and]
    | false =>
      rw [q] at ei
      simp -implicitDefEqProofs only [tAnd_ap, toB_ap, eBin_ap, eComp_ap, aItems_ap, eV_ap, List.getElem?_cons_succ, List.getElem?_cons_zero, getV_val, bind_ok, ei, itemsOf_lst, ofO_some, hl2, if_true, hw2, e2, eLst_ap, aNil_ap, List.length_nil, hz, ef, toBK_bl, Bool.not_false, Bool.true_and], rfl⟩
  have es : (List.range' 0 W.many).filter (fun p => !decide (p ∈ sureW W) && !((lsils W).filter fun S => decide (p ∈ S)).isEmpty) = perhW W := by
    unfold perhW someQ
    rw [List.filter_filter]
    refine List.filter_congr fun p _ => ?_
    rw [empty_congr h]
  rw [es] at ec
  unfold lP
  generalize dNs (List.range' 0 W.many) = DR at *
  simp -implicitDefEqProofs only [eComp_ap, aItems_ap, eV_ap, List.getElem?_cons_succ, List.getElem?_cons_zero, getV_val, bind_ok, itemsOf_lst, ofO_some, hl, if_true, hw, ec]
theorem fit_qt (W : Web) : fit 3 (.tup [.lst (dNs (sureW W)), .lst (dNs (perhW W))]) = true := by
  rw [fit_tup]
  simp only [List.all_cons, List.all_nil, Bool.and_true, Bool.and_eq_true, fit_lst]
  exact ⟨fit_dNs _ _, fit_dNs _ _⟩
theorem len_sure {W : Web} (h : WebOk W) : (sureW W).length ≤ 6 := by
  have := h.hi
  unfold sureW
  refine Nat.le_trans (List.length_filter_le _ _) ?_
  rw [List.length_range']; omega
theorem len_perh {W : Web} (h : WebOk W) : (perhW W).length ≤ 6 := by
  have := h.hi
  unfold perhW someQ
  refine Nat.le_trans (List.length_filter_le _ _) (Nat.le_trans (List.length_filter_le _ _) ?_)
  rw [List.length_range']; omega
theorem lenOk_dNs {n : Nat} {xs : List Nat} (h : xs.length ≤ 1000) : lenOk (n + 1) (.lst (dNs xs)) = true := by
  unfold lenOk
  rw [Bool.and_eq_true, decide_eq_true_eq, dNs_len, List.all_eq_true]
  refine ⟨h, fun d hd => ?_⟩
  obtain ⟨k, _, rfl⟩ := List.mem_map.mp hd
  cases n <;> rfl
theorem alike_qt {W : Web} {rw : Rw} (h : WebOk W) : d__law_alike [.tup [.lst (dNs (sureW W)), .lst (dNs (perhW W))], .tup [.lst (dNs (sureW W)), .lst (dNs (perhW W))]] rw = .ok (.bl true, rw) := by
  refine alike_ok (fit_mono 3 5 _ (by decide) (fit_qt W)) ?_
  have e1 : lenOk 4 (.lst (dNs (sureW W))) = true := lenOk_dNs (by have := len_sure h; omega)
  have e2 : lenOk 4 (.lst (dNs (perhW W))) = true := lenOk_dNs (by have := len_perh h; omega)
  show (decide (2 ≤ 1000) && ([D.lst (dNs (sureW W)), .lst (dNs (perhW W))].all (lenOk 4))) = true
  simp only [List.all_cons, List.all_nil, e1, e2]
  rfl
theorem sTold2_ap (i : Nat) (g : EM D) (c : EM Bool) (l : Dl) (rw : Rw) : sTold2 i g c l rw = (noX (g l rw)).bind fun p => match p.1 with
  | .tup [.lst a, .lst b] => (c (l.set i (.val (.tup [.lst a, .lst b]))) p.2).bind fun q => if q.1 = true then .ok (.ret (.bl false), l.set i (.val (.tup [.lst a, .lst b])), q.2) else if (a.length < 100000 ∧ b.length < 100000) ∧ i < l.length then .ok (.next, l.set i .no, q.2) else .stuck
  | _ => .stuck := rfl
theorem again {W : Web} {rw : Rw} (h : WebOk W) (x0 x1 x2 x4 x5 x10 x11 x12 x13 x14 : Sl) : ∀ (ds : List D) (x8 x9 : Sl),
    ∃ x8' x9', sLoop (gN 8) lb1 ds [x0, x1, x2, .val (dWeb W), x4, x5, .val (.lst (dNs (sureW W))), .val (.lst (dNs (perhW W))), x8, x9, x10, x11, x12, x13, x14] rw = .ok (.next, [x0, x1, x2, .val (dWeb W), x4, x5, .val (.lst (dNs (sureW W))), .val (.lst (dNs (perhW W))), x8', x9', x10, x11, x12, x13, x14], rw)
  | [], x8, x9 => ⟨x8, x9, rfl⟩
  | d :: ds, x8, x9 => by
    obtain ⟨y8, y9, e2⟩ := again (rw := rw) h x0 x1 x2 x4 x5 x10 x11 x12 x13 x14 ds (.val d) .no
    refine ⟨y8, y9, ?_⟩
    have e1 := quiet_ok (rw := rw) h
    have e3 := alike_qt (rw := rw) h
    have hl : ((dNs (sureW W)).length < 100000 ∧ (dNs (perhW W)).length < 100000) ∧ 9 < 15 := by
      have := len_sure h
      have := len_perh h
      rw [dNs_len, dNs_len]
      omega
    have h2l : 2 ≤ sizeLine := sl_big (by decide)
    rw [sLoop]
    simp only [gN_ap, List.set_cons_succ, List.set_cons_zero]
    have eB : lb1 [x0, x1, x2, .val (dWeb W), x4, x5, .val (.lst (dNs (sureW W))), .val (.lst (dNs (perhW W))), .val d, x9, x10, x11, x12, x13, x14] rw = .ok (.next, [x0, x1, x2, .val (dWeb W), x4, x5, .val (.lst (dNs (sureW W))), .val (.lst (dNs (perhW W))), .val d, .no, x10, x11, x12, x13, x14], rw) := by
      generalize dWeb W = DW at *
      generalize dNs (sureW W) = D1 at *
      generalize dNs (perhW W) = D2 at *
      unfold lb1
      simp -implicitDefEqProofs only [sTold2_ap, eCall_ap, aCons_ap, aNil_ap, eV_ap, List.getElem?_cons_succ, List.getElem?_cons_zero, getV_val, bind_ok, e1, noX_ok, tNot_ap, toB_ap, List.set_cons_succ, List.set_cons_zero, eTup_ap, List.length_cons, List.length_nil, Nat.zero_add, Nat.reduceAdd, h2l, if_true, ofO_some, e3, toBK_bl, Bool.not_true, Bool.false_eq_true, if_false, hl, and_self]
    rw [eB]
    exact e2
/-! ### what came back isn't silent -/
theorem told_out {W : Web} (h : WebOk W) {g n : Nat} (h1 : 1 ≤ g) (h2 : g < W.many) (n1 : 1 ≤ n) (n2 : n ≤ 2 * W.many) {x : Str} {p : Nat} (e : told W g n = .tup [.str x, .int (p : Int)]) : p ∉ sureW W ++ perhW W := by
  have key : ∀ S, World W S → p ∉ S := fun S hS hp => by
    obtain ⟨w, _, hc⟩ := hS.2 g h1 h2
    have e1 := (hc n n1 n2).trans e
    cases q : posM w g n with
    | none => rw [q] at e1; simp [ansM, nothingD] at e1
    | some r =>
      rw [q] at e1
      unfold ansM at e1
      dsimp only at e1
      split at e1
      · simp [nothingD] at e1
      · rename_i hr
        simp only [D.tup.injEq, List.cons.injEq, D.int.injEq] at e1
        have : r = p := by omega
        exact hr (this ▸ hp)
  intro hm
  rcases List.mem_append.mp hm with hm | hm
  · exact key _ (own_world h) (((sure_mem h).mp hm).2 _ (own_world h))
  · obtain ⟨_, S, hS, hp⟩ := (some_mem h).mp ((perh_mem h).mp hm).1
    exact key S hS hp
theorem one_turn {W : Web} {g n : Nat} {rw : Rw} (h : WebOk W) (h1 : 1 ≤ g) (h2 : g < W.many) (n1 : 1 ≤ n) (n2 : n ≤ 2 * W.many) (x0 x1 x2 x3 x4 x5 x8 x9 x10 x12 x13 x14 : Sl) :
    lb2 [x0, x1, x2, x3, x4, x5, .val (.lst (dNs (sureW W))), .val (.lst (dNs (perhW W))), x8, x9, x10, .val (told W g n), x12, x13, x14] rw = .ok (.next, [x0, x1, x2, x3, x4, x5, .val (.lst (dNs (sureW W))), .val (.lst (dNs (perhW W))), x8, x9, x10, .val (told W g n), x12, x13, x14], rw) := by
  have ea := fAdd_lst (dNs (sureW W)) (dNs (perhW W)) (by rw [dNs_len, dNs_len]; have := len_sure h; have := len_perh h; omega)
  rw [← dNs_append] at ea
  have hto : told W g n = nothingD ∨ ∃ x p, told W g n = .tup [.str x, .int ((p : Nat) : Int)] := by
    unfold told
    cases posM (wayOf W g) g n with
    | none => exact .inl rfl
    | some p =>
      unfold ansM
      dsimp only
      split
      · exact .inl rfl
      · exact .inr ⟨_, p, rfl⟩
  rcases hto with e | ⟨x, p, e⟩
  · rw [e]
    have e1 : fEq (.int ((([D.str "nothing"] : List D)).length : Nat)) (.int 2) = some (.bl false) := by rw [fEq_int]; rfl
    unfold lb2 nothingD
    simp -implicitDefEqProofs only [sIf_ap, tAnd_ap, toB_ap, eBin_ap, eArgs_ap, aCons_ap, aNil_ap, eV_ap, eK_ap, List.getElem?_cons_succ, List.getElem?_cons_zero, getV_val, bind_ok, fLen_tup, ofO_some, e1, toBK_bl, Bool.false_eq_true, if_false, sNext_ap]
  · have ho := told_out h h1 h2 n1 n2 e
    rw [e]
    have e1 : fEq (.int ((([D.str x, .int (p : Int)] : List D)).length : Nat)) (.int 2) = some (.bl true) := by rw [fEq_int]; rfl
    have ei := fIn_dNs false p (sureW W ++ perhW W)
    rw [if_neg Bool.false_ne_true, decide_eq_false ho] at ei
    unfold lb2
    simp -implicitDefEqProofs only [sIf_ap, tAnd_ap, toB_ap, eBin_ap, eArgs_ap, aCons_ap, aNil_ap, eV_ap, eK_ap, List.getElem?_cons_succ, List.getElem?_cons_zero, getV_val, bind_ok, fLen_tup, ofO_some, e1, toBK_bl, if_true, fIx_tup, atI_one, ea, ei, Bool.false_eq_true, if_false, sNext_ap]
theorem ones {W : Web} {g : Nat} {rw : Rw} (h : WebOk W) (h1 : 1 ≤ g) (h2 : g < W.many) (x0 x1 x2 x3 x4 x5 x8 x9 x10 x12 x13 x14 : Sl) : ∀ (ns : List Nat) (x11 : Sl), (∀ n ∈ ns, n + 1 ≤ 2 * W.many) →
    ∃ x11', sLoop (gN 11) lb2 (ns.map fun n => told W g (n + 1)) [x0, x1, x2, x3, x4, x5, .val (.lst (dNs (sureW W))), .val (.lst (dNs (perhW W))), x8, x9, x10, x11, x12, x13, x14] rw = .ok (.next, [x0, x1, x2, x3, x4, x5, .val (.lst (dNs (sureW W))), .val (.lst (dNs (perhW W))), x8, x9, x10, x11', x12, x13, x14], rw)
  | [], x11, _ => ⟨x11, rfl⟩
  | n :: ns, x11, hn => by
    obtain ⟨y, e2⟩ := ones (rw := rw) h h1 h2 x0 x1 x2 x3 x4 x5 x8 x9 x10 x12 x13 x14 ns (.val (told W g (n + 1))) fun k hk => hn k (List.mem_cons_of_mem _ hk)
    refine ⟨y, ?_⟩
    have e1 := one_turn (rw := rw) h h1 h2 (show 1 ≤ n + 1 by omega) (hn n List.mem_cons_self) x0 x1 x2 x3 x4 x5 x8 x9 x10 x12 x13 x14
    rw [List.map_cons, sLoop]
    simp only [gN_ap, List.set_cons_succ, List.set_cons_zero]
    rw [e1]
    exact e2
theorem goals {W : Web} {rw : Rw} (h : WebOk W) (x0 x1 x2 x4 x5 x8 x9 x12 x13 x14 : Sl) : ∀ (gs : List Nat) (x10 x11 : Sl), (∀ g ∈ gs, 1 ≤ g ∧ g < W.many) →
    ∃ x10' x11', sLoop (gN 10) lb3 (dNs gs) [x0, x1, x2, .val (dWeb W), x4, x5, .val (.lst (dNs (sureW W))), .val (.lst (dNs (perhW W))), x8, x9, x10, x11, x12, x13, x14] rw = .ok (.next, [x0, x1, x2, .val (dWeb W), x4, x5, .val (.lst (dNs (sureW W))), .val (.lst (dNs (perhW W))), x8, x9, x10', x11', x12, x13, x14], rw)
  | [], x10, x11, _ => ⟨x10, x11, rfl⟩
  | g :: gs, x10, x11, hg => by
    have hlo := h.lo
    have hhi := h.hi
    obtain ⟨h1, h2⟩ := hg g List.mem_cons_self
    obtain ⟨y11, e1⟩ := ones (rw := rw) h h1 h2 x0 x1 x2 (.val (dWeb W)) x4 x5 x8 x9 (.val (.int (g : Int))) x12 x13 x14 (List.range' 0 (2 * W.many)) x11 fun n hn => by have := List.mem_range'_1.mp hn; omega
    obtain ⟨z10, z11, e2⟩ := goals (rw := rw) h x0 x1 x2 x4 x5 x8 x9 x12 x13 x14 gs (.val (.int (g : Int))) y11 fun k hk => hg k (List.mem_cons_of_mem _ hk)
    refine ⟨z10, z11, ?_⟩
    have ea := law_answers_ok (rw := rw) (n := 2 * W.many) h (wayOf_at h h1 h2) (by omega)
    have el : ansL W.silent (wayOf W g) g (2 * W.many) = (List.range' 0 (2 * W.many)).map fun n => told W g (n + 1) := rfl
    rw [← el] at e1
    have i0 := ix0 W
    have em : fMul (.int 2) (.int (W.many : Int)) = some (.int ((2 * W.many : Nat) : Int)) := by
      rw [fMul_int, if_pos ⟨by omega, by omega⟩]
      congr 2
    have : dNs (g :: gs) = .int (g : Int) :: dNs gs := rfl
    rw [this, sLoop]
    simp only [gN_ap, List.set_cons_succ, List.set_cons_zero]
    have eB : lb3 [x0, x1, x2, .val (dWeb W), x4, x5, .val (.lst (dNs (sureW W))), .val (.lst (dNs (perhW W))), x8, x9, .val (.int (g : Int)), x11, x12, x13, x14] rw = .ok (.next, [x0, x1, x2, .val (dWeb W), x4, x5, .val (.lst (dNs (sureW W))), .val (.lst (dNs (perhW W))), x8, x9, .val (.int (g : Int)), y11, x12, x13, x14], rw) := by
      generalize ansL W.silent (wayOf W g) g (2 * W.many) = LA at *
      generalize dWeb W = DW at *
      unfold lb3
      simp -implicitDefEqProofs only [sFor_ap, aItems_ap, eCall_ap, aCons_ap, aNil_ap, eV_ap, eK_ap, eBin_ap, List.getElem?_cons_succ, List.getElem?_cons_zero, getV_val, bind_ok, i0, ofO_some, em, ea, itemsOf_lst, e1]
    rw [eB]
    exact e2
theorem turn {rw : Rw} (hv : RV rw) (x0 x2 x3 x4 x5 x6 x7 x8 x9 x10 x11 x12 x13 x14 : Sl) : ∃ x3' x4' x5' x6' x7' x8' x9' x10' x11' x12' x13' x14' rw', lb4 [x0, .val .row, x2, x3, x4, x5, x6, x7, x8, x9, x10, x11, x12, x13, x14] rw = .ok (.next, [x0, .val .row, x2, x3', x4', x5', x6', x7', x8', x9', x10', x11', x12', x13', x14'], rw') ∧ RV rw' := by
  obtain ⟨t, rw1, e1, r1, t1, t2⟩ := taken_ok (n := 4) hv (by decide)
  obtain ⟨b, hb, hb4, hb6⟩ : ∃ b : Nat, L2.atI [D.int 4, .int 4, .int 4, .int 6] t = some (.int (b : Int)) ∧ 4 ≤ b ∧ b ≤ 6 := by
    have : t = 0 ∨ t = 1 ∨ t = 2 ∨ t = 3 := by omega
    rcases this with rfl | rfl | rfl | rfl
    · exact ⟨4, rfl, by decide, by decide⟩
    · exact ⟨4, rfl, by decide, by decide⟩
    · exact ⟨4, rfl, by decide, by decide⟩
    · exact ⟨6, rfl, by decide, by decide⟩
  obtain ⟨W, rw2, e2, r2, h, _, _⟩ := web_ok (a := 2) (b := b) (by decide) (by omega) hb6 r1
  have e2' : d__law_web [.row, .int 2, .int (b : Int)] rw1 = .ok (dWeb W, rw2) := e2
  have hlo := h.lo
  have hhi := h.hi
  have e3 := law_worlds_ok (rw := rw2) h
  have e4 := compL_mapM (tg := gT 2 (gsCons (gN 12) (gsCons (gN 13) gsNil))) (c := cYes) (e := eV 12) (lw := [x0, .val .row, x2, .val (dWeb W), x4, x5, x6, x7, x8, x9, x10, x11, .no, .no, x14]) (rw := rw2) dLWd (fun x => dP x.1) (lawWorlds W) fun x _ => ⟨[x0, .val .row, x2, .val (dWeb W), x4, x5, x6, x7, x8, x9, x10, x11, .val (dP x.1), .val (.lst (x.2.map dLWs)), x14], rfl, rfl, rfl⟩
  have em : (lawWorlds W).map (fun x => dP x.1) = (lsils W).map dP := by unfold lsils; rw [List.map_map]; rfl
  rw [em] at e4
  have hlW : ((lawWorlds W).map dLWd).length ≤ sizeLine := sl_big (by rw [List.length_map]; have := lawWorlds_len h; omega)
  have hw : wipeD [x0, .val .row, x2, .val (dWeb W), x4, x5, x6, x7, x8, x9, x10, x11, x12, x13, x14] [12, 13] = [x0, .val .row, x2, .val (dWeb W), x4, x5, x6, x7, x8, x9, x10, x11, .no, .no, x14] := rfl
  have i0 := ix0 W
  have hrg : (-1000000 : Int) ≤ (W.many : Int) ∧ (W.many : Int) ≤ 1000000 := by omega
  have hrd : rangeD 0 ((W.many : Int)).toNat = dNs (List.range' 0 W.many) := by
    rw [Int.toNat_natCast]
    have := rangeD_dNs 0 W.many
    rwa [show ((0 : Nat) : Int) = 0 from rfl] at this
  have e5 := lS_ok (rw := rw2) h x0 (.val .row) x2 (.val (dWeb W)) x6 x7 x8 x9 x10 x11 x12 x13 x14
  have e6 := lP_ok (rw := rw2) h x0 (.val .row) x2 (.val (dWeb W)) x7 x8 x9 x10 x11 x12 x13 x14
  obtain ⟨y8, y9, e7⟩ := again (rw := rw2) h x0 (.val .row) x2 (.val (.lst ((lsils W).map dP))) (.val (.lst (dNs (List.range' 0 W.many)))) x10 x11 x12 x13 x14 (rangeD 0 2) x8 x9
  obtain ⟨y10, y11, e8⟩ := goals (rw := rw2) h x0 (.val .row) x2 (.val (.lst ((lsils W).map dP))) (.val (.lst (dNs (List.range' 0 W.many)))) y8 y9 x12 x13 x14 (List.range' 1 (W.many - 1)) x10 x11 fun g hg => by have := List.mem_range'_1.mp hg; omega
  have hr2 : rng1 [.int 2] = some (rangeD 0 2) := rng1_of' (n := 2) rfl (by decide)
  have hr : rng2 [.int (1 : Int), .int (W.many : Int)] = some (dNs (List.range' 1 (W.many - 1))) := (rng2_of' (i := 1) (j := (W.many : Int)) (a := 1) (b := W.many) rfl rfl (by omega) (by omega)).trans (by rw [rangeD_dNs])
  have h4s : 4 ≤ sizeLine := sl_big (by decide)
  refine ⟨.val (dWeb W), .val (.lst ((lsils W).map dP)), .val (.lst (dNs (List.range' 0 W.many))), .val (.lst (dNs (sureW W))), .val (.lst (dNs (perhW W))), y8, y9, y10, y11, x12, x13, x14, rw2, ?_, r2⟩
  have e' : lb4 = (sSeq (sSet 3 (eCall d__law_web (aCons (eV 1) (aCons (eK (.int 2)) (aCons (eBin fIx (eLst (aCons (eK (.int 4)) (aCons (eK (.int 4)) (aCons (eK (.int 4)) (aCons (eK (.int 6)) aNil))))) (eCall d__law_taken (aCons (eV 1) (aCons (eK (.int 4)) aNil)))) aNil))))) (sSeq (sSet 4 (eComp (aItems (eCall d__law_worlds (aCons (eV 3) aNil))) (gT 2 (gsCons (gN 12) (gsCons (gN 13) gsNil))) cYes (eV 12) [12, 13])) (sSeq (sSet 5 (eLRg1 (eBin fIx (eV 3) (eK (.int 0))))) (sSeq (sSet 6 lS) (sSeq (sSet 7 lP) (sSeq (sFor (aRng rng1 (aCons (eK (.int 2)) aNil)) (gN 8) lb1) (sFor (aRng rng2 (aCons (eK (.int 1)) (aCons (eBin fIx (eV 3) (eK (.int 0))) aNil))) (gN 10) lb3))))))) := rfl
  rw [e']
  generalize dWeb W = DW at *
  generalize dNs (sureW W) = D1 at *
  generalize dNs (perhW W) = D2 at *
  generalize dNs (List.range' 0 W.many) = DR at *
  generalize dNs (List.range' 1 (W.many - 1)) = DS at *
  generalize (lsils W).map dP = DL at *
  generalize (lawWorlds W).map dLWd = DY at *
  simp -implicitDefEqProofs only [sSeq_ap, sSet_ap, eCall_ap, aCons_ap, aNil_ap, eV_ap, eK_ap, eBin_ap, eLst_ap, List.getElem?_cons_succ, List.getElem?_cons_zero, getV_val, bind_ok, List.length_cons, List.length_nil, Nat.zero_add, Nat.reduceAdd, h4s, if_true, ofO_some, e1, fIx_lst, hb, e2', List.set_cons_succ, List.set_cons_zero, seqK_next, eComp_ap, aItems_ap, e3, itemsOf_lst, hlW, hw, e4, eLRg1_ap, i0, hrg, and_self, hrd, e5, e6, sFor_ap, aRng_ap, hr2, e7, hr, e8]
theorem turns (x0 : Sl) : ∀ (ds : List D) (rw : Rw) (x2 x3 x4 x5 x6 x7 x8 x9 x10 x11 x12 x13 x14 : Sl), RV rw → ∃ l' rw', sLoop (gN 2) lb4 ds [x0, .val .row, x2, x3, x4, x5, x6, x7, x8, x9, x10, x11, x12, x13, x14] rw = .ok (.next, l', rw')
  | [], rw, x2, x3, x4, x5, x6, x7, x8, x9, x10, x11, x12, x13, x14, _ => ⟨_, rw, rfl⟩
  | d :: ds, rw, x2, x3, x4, x5, x6, x7, x8, x9, x10, x11, x12, x13, x14, hv => by
    obtain ⟨y3, y4, y5, y6, y7, y8, y9, y10, y11, y12, y13, y14, rw1, e1, r1⟩ := turn hv x0 (.val d) x3 x4 x5 x6 x7 x8 x9 x10 x11 x12 x13 x14
    obtain ⟨l', rw2, e2⟩ := turns x0 ds rw1 (.val d) y3 y4 y5 y6 y7 y8 y9 y10 y11 y12 y13 y14 r1
    refine ⟨l', rw2, ?_⟩
    rw [sLoop]
    simp only [gN_ap, List.set_cons_succ, List.set_cons_zero]
    rw [e1]
    exact e2
theorem pure_law : K08.pureLaw := by
  intro ns hn
  have hv : RV (some ⟨ns, 0, 0⟩) := ⟨_, rfl, Int.le_refl 0, hn⟩
  generalize (some ⟨ns, 0, 0⟩ : Rw) = rw at hv
  obtain ⟨l', rw1, e1⟩ := turns (.val (.scr ns)) (rangeD 0 2) rw .no .no .no .no .no .no .no .no .no .no .no .no .no hv
  refine ⟨l', rw1, ?_⟩
  have hr2 : rng1 [.int 2] = some (rangeD 0 2) := rng1_of' (n := 2) rfl (by decide)
  rw [lb_eq]
  simp -implicitDefEqProofs only [List.replicate, sSeq_ap, sFor_ap, aRng_ap, aCons_ap, aNil_ap, eK_ap, bind_ok, hr2, ofO_some, e1, seqK_next, sRet_ap]
end K08
end
open PySem PySem.W PySem.Calls PyProof.Rows
theorem PySem.Challenge.cw_hopmark_k08_whole_who_is_silent_holds : PySem.Challenge.rw_hopmark_k08_whole_who_is_silent.Holds :=
by
  w_on; o_law
  refine HandSHeadRun.head_any (r := OpenLaw.row PySem.Challenge.rw_hopmark_k08_whole_who_is_silent) (q := view (OpenLaw.row PySem.Challenge.rw_hopmark_k08_whole_who_is_silent).prog [39]) (H := K08.hk) (ob := K08.ob) (M := 4000) (loose := ((["HopError", "BadWeb", "LEAST_MANY", "MOST_MANY", "is_many", "is_way", "need_web", "NOTHING", "steps_to", "posts_on", "answer_of", "answers_of", "all_ways", "with_end", "all_silent", "seen_in", "gives", "giving", "dues_of", "all_worlds", "quiet", "_law_taken", "_law_alike", "_law_way", "_law_web", "_law_asked", "_law_answers", "_law_all_ways", "_law_all_walks", "_law_some_ways"] : List Str) ++ (["_law_all_silent", "_law_told", "_law_worlds"] : List Str))) (d := HandSHeadRun.topDef (OpenLaw.row PySem.Challenge.rw_hopmark_k08_whole_who_is_silent).prog 39) (kwd := []) K08.ob_eq
    (by kernel_rfl) (fun s => by kernel_rfl) K08.run (by kernel_rfl) (by kernel_rfl) (by kernel_rfl) (by rfl) (by first | assumption | decide +kernel) (by decide +kernel) ⟨rfl, rfl, rfl, rfl, rfl, by decide +kernel⟩ ?hw ?hc
  case hw => w_witness2
  case hc =>
    refine LamX.walk_ofTsE (l := PySem.Challenge.rw_hopmark_k08_whole_who_is_silent) (n := 63) (k := 7) (x := "_law_script") (CX := fun _ => HD.CXF) rfl (by decide) (by kernel_rfl) ⟨rfl, by decide, by decide⟩ ?F (fun _ _ _ _ _ z => z)
    intro w mg fa h Y G hmg0
    obtain ⟨K, KX, c⟩ := Y
    have hmg : mg ("law" : PySem.Str) = some (.ref fa) := by
      have e : (HandSHeadRun.topDef (OpenLaw.row PySem.Challenge.rw_hopmark_k08_whole_who_is_silent).prog 39).name = ("law" : PySem.Str) := by kernel_rfl
      rw [← e]
      exact hmg0
    obtain ⟨fd, hb, hF⟩ := K08.facts K08.pure_law (P := (PySem.Challenge.rw_hopmark_k08_whole_who_is_silent).prog) (w := w) KX G hmg c
    exact ⟨K, KX, fd, K08.tf.map (He.cT K), HD.spL K, fun p hp => by obtain ⟨q, hq, rfl⟩ := List.mem_map.mp hp; exact c.empty q hq, fun p hp => by obtain ⟨q, hq, rfl⟩ := List.mem_map.mp hp; exact c.out q hq, fun p hp => by obtain ⟨q, hq, rfl⟩ := List.mem_map.mp hp; exact PySem.W.codeHd_of_K KX (c.hd q hq), hb, fun H a ns hl hbt hH hS => ⟨a, ns, rfl, hS, HD.tabs_of (K08.ex_of c.more).1 hH, hl, fun _ => rfl⟩, hF⟩
