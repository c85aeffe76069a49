import PyProof.Rows.All
import Wide.All
import OpenK.AllK
import Wide.FinOn
import HandS.ForMost
import HandS.Lambda
import HandS.IsInst
import HandS.TupAny
import HandS.Deep
import HandS.Flow
import HandS.Defaults
import HandS.SetFor
import HandS.Strs
import HandS.TupMul
import HandS.ForSpec
import HandS.Head0
import HandS.Head1
import HandS.Head2
import HandS.HeadEnd
import HandS.HeadHook1
import HandS.HeadHook2
import HandS.Text
import HandS.SortKw
import HandS.Conv
import HandS.Sort
import KE.SortKeyHeap
import KE.KDictList
import HandS.HeadHook4
import HandS.HeadWalk
import HandS.SortInts
import HandS.ExcOwn
import HandS.ExcInit
import HandS.WordsExc
import HandS.Comp
import HandS.ExcField
import KE.KExcIs
import PyProof.Rows.CountFlat
import PySem.Challenge.RW_hopmark_k01_webs_that_are_none
set_option Elab.async false
set_option linter.all false
set_option maxRecDepth 100000
set_option maxHeartbeats 4000000
section
/-! A data layer over the hand layer: values as trees, readings as total functions. -/
namespace HD
open PySem PySem.Spec L2
open PyProof.Rows hiding St

/-! ### trees -/
inductive D where
  | non | bl (b : Bool) | int (i : Int) | str (x : Str)
  | tup (xs : List D) | lst (xs : List D) | dic (ks : List Int) (xs : List D)
  | raw (v : V) | row | scr (ns : List Int)

/-- what the counted list of a law holds: the script, a place, a mixed number -/
structure RwS where
  ns : List Int
  ix : Int
  mx : Int
abbrev Rw := Option RwS

mutual
def Rep (K : PySem.W.Frag) (r : Option Addr) (G : Hp) : D → V → Prop
  | .non, v => v = .non
  | .bl b, v => v = .bl b
  | .int i, v => v = .int i
  | .str x, v => v = .str x
  | .tup xs, v => ∃ a vs, v = .ref a ∧ SqT K G a vs ∧ vs.length ≤ sizeLine ∧ Reps K r G xs vs
  | .lst xs, v => ∃ a vs, v = .ref a ∧ G a = some (.lst vs) ∧ vs.length ≤ sizeLine ∧ Reps K r G xs vs
  | .dic ks xs, v => ∃ a od kvs vs, v = .ref a ∧ G a = some (.frz od (.dK kvs)) ∧ kvs.length ≤ sizeLine ∧ kvs.map (·.1) = ks.map Sum.inl ∧ kvs.map (·.2) = vs ∧ Reps K r G xs vs
  | .raw u, v => v = u
  | .row, v => ∃ a, r = some a ∧ v = .ref a
  | .scr ns, v => ∃ a, v = .ref a ∧ ((∃ o, G a = some (.frz o (.lst (ns.map V.int)))) ∨ SqL K (fun _ => none) a (ns.map V.int)) ∧ ns.length ≤ sizeLine
def Reps (K : PySem.W.Frag) (r : Option Addr) (G : Hp) : List D → List V → Prop
  | [], vs => vs = []
  | d :: ds, vs => ∃ v t, vs = v :: t ∧ Rep K r G d v ∧ Reps K r G ds t
end

theorem Same.seqT {K : PySem.W.Frag} {H H' : Hp} {a : Addr} {xs : List V} (e : Same H H') (h : SqT K H a xs) : SqT K H' a xs := by
  rcases h with (h | ⟨o, h⟩) | h
  · exact .inl (.inl (e _ _ h))
  · exact .inl (.inr ⟨o, e _ _ h⟩)
  · exact .inr h

mutual
theorem Rep.mono {K : PySem.W.Frag} {r : Option Addr} {G G' : Hp} (e : Same G G') : ∀ {d : D} {v : V}, Rep K r G d v → Rep K r G' d v
  | .non, _, h => h
  | .bl _, _, h => h
  | .int _, _, h => h
  | .str _, _, h => h
  | .tup xs, v, h => by
    unfold Rep at h ⊢
    obtain ⟨a, vs, h1, h2, h3, h4⟩ := h
    exact ⟨a, vs, h1, Same.seqT e h2, h3, Reps.mono e h4⟩
  | .lst xs, v, h => by
    unfold Rep at h ⊢
    obtain ⟨a, vs, h1, h2, h3, h4⟩ := h
    exact ⟨a, vs, h1, e _ _ h2, h3, Reps.mono e h4⟩
  | .dic ks xs, v, h => by
    unfold Rep at h ⊢
    obtain ⟨a, od, kvs, vs, h1, h2, h3, h4, h5, h6⟩ := h
    exact ⟨a, od, kvs, vs, h1, e _ _ h2, h3, h4, h5, Reps.mono e h6⟩
  | .raw _, _, h => h
  | .row, _, h => h
  | .scr ns, v, h => by
    unfold Rep at h ⊢
    obtain ⟨a, h1, h2, h3⟩ := h
    exact ⟨a, h1, h2.imp (fun ⟨o, q⟩ => ⟨o, e _ _ q⟩) id, h3⟩
theorem Reps.mono {K : PySem.W.Frag} {r : Option Addr} {G G' : Hp} (e : Same G G') : ∀ {ds : List D} {vs : List V}, Reps K r G ds vs → Reps K r G' ds vs
  | [], _, h => h
  | d :: ds, vs, h => by
    unfold Reps at h ⊢
    obtain ⟨v, t, h1, h2, h3⟩ := h
    exact ⟨v, t, h1, Rep.mono e h2, Reps.mono e h3⟩
end

section
variable {K : PySem.W.Frag} {r : Option Addr} {G : Hp}
theorem Reps.nil : Reps K r G [] [] := by unfold Reps; rfl
theorem Reps.cons {d : D} {v : V} {ds : List D} {vs : List V} (h : Rep K r G d v) (t : Reps K r G ds vs) : Reps K r G (d :: ds) (v :: vs) := by
  unfold Reps; exact ⟨v, vs, rfl, h, t⟩
theorem Reps.length : ∀ {ds : List D} {vs : List V}, Reps K r G ds vs → ds.length = vs.length
  | [], _, h => by unfold Reps at h; subst h; rfl
  | d :: ds, vs, h => by
    unfold Reps at h
    obtain ⟨v, t, rfl, _, h3⟩ := h
    simp [Reps.length h3]
theorem Reps.get : ∀ {ds : List D} {vs : List V} {i : Nat} {d : D}, Reps K r G ds vs → ds[i]? = some d → ∃ v, vs[i]? = some v ∧ Rep K r G d v
  | [], _, _, _, _, h => by simp at h
  | d :: ds, vs, 0, e, h, h2 => by
    unfold Reps at h
    obtain ⟨v, t, rfl, h1, h3⟩ := h
    simp at h2; subst h2
    exact ⟨v, by simp, h1⟩
  | d :: ds, vs, i + 1, e, h, h2 => by
    unfold Reps at h
    obtain ⟨v, t, rfl, h1, h3⟩ := h
    obtain ⟨u, h4, h5⟩ := Reps.get (i := i) h3 (by simpa using h2)
    exact ⟨u, by simpa using h4, h5⟩
theorem Reps.got : ∀ {ds : List D} {vs : List V} {i : Nat} {v : V}, Reps K r G ds vs → vs[i]? = some v → ∃ d, ds[i]? = some d ∧ Rep K r G d v := fun {ds vs i v} h e => by
  have hl := h.length
  have hi : i < vs.length := (List.getElem?_eq_some_iff.mp e).1
  obtain ⟨u, h1, h2⟩ := Reps.get h (List.getElem?_eq_getElem (show i < ds.length by omega))
  rw [e] at h1; cases h1
  exact ⟨_, List.getElem?_eq_getElem (show i < ds.length by omega), h2⟩
theorem Reps.append : ∀ {ds es : List D} {vs us : List V}, Reps K r G ds vs → Reps K r G es us → Reps K r G (ds ++ es) (vs ++ us)
  | [], _, _, _, h, t => by unfold Reps at h; subst h; exact t
  | d :: ds, es, vs, us, h, t => by
    unfold Reps at h
    obtain ⟨v, w, rfl, h1, h3⟩ := h
    exact Reps.cons h1 (Reps.append h3 t)
theorem Reps.set : ∀ {ds : List D} {vs : List V} {d : D} {v : V} (i : Nat), Reps K r G ds vs → Rep K r G d v → Reps K r G (ds.set i d) (vs.set i v)
  | [], _, _, _, _, h, _ => by unfold Reps at h; subst h; exact Reps.nil
  | d :: ds, vs, e, u, 0, h, t => by
    unfold Reps at h
    obtain ⟨v, w, rfl, h1, h3⟩ := h
    exact Reps.cons t h3
  | d :: ds, vs, e, u, i + 1, h, t => by
    unfold Reps at h
    obtain ⟨v, w, rfl, h1, h3⟩ := h
    exact Reps.cons h1 (Reps.set i h3 t)
theorem Reps.take : ∀ {ds : List D} {vs : List V} (n : Nat), Reps K r G ds vs → Reps K r G (ds.take n) (vs.take n)
  | _, _, 0, _ => by simp; exact Reps.nil
  | [], _, _ + 1, h => by unfold Reps at h; subst h; exact Reps.nil
  | d :: ds, vs, n + 1, h => by
    unfold Reps at h
    obtain ⟨v, w, rfl, h1, h3⟩ := h
    exact Reps.cons h1 (Reps.take n h3)
theorem Reps.drop : ∀ {ds : List D} {vs : List V} (n : Nat), Reps K r G ds vs → Reps K r G (ds.drop n) (vs.drop n)
  | _, _, 0, h => h
  | [], _, _ + 1, h => by unfold Reps at h; subst h; exact Reps.nil
  | d :: ds, vs, n + 1, h => by
    unfold Reps at h
    obtain ⟨v, w, rfl, h1, h3⟩ := h
    exact Reps.drop n h3
theorem Reps.eraseIdx : ∀ {ds : List D} {vs : List V} (n : Nat), Reps K r G ds vs → Reps K r G (ds.eraseIdx n) (vs.eraseIdx n)
  | [], _, _, h => by unfold Reps at h; subst h; exact Reps.nil
  | d :: ds, vs, 0, h => by
    unfold Reps at h
    obtain ⟨v, w, rfl, h1, h3⟩ := h
    exact h3
  | d :: ds, vs, n + 1, h => by
    unfold Reps at h
    obtain ⟨v, w, rfl, h1, h3⟩ := h
    exact Reps.cons h1 (Reps.eraseIdx n h3)
theorem Reps.reverse : ∀ {ds : List D} {vs : List V}, Reps K r G ds vs → Reps K r G ds.reverse vs.reverse
  | [], _, h => by unfold Reps at h; subst h; exact Reps.nil
  | d :: ds, vs, h => by
    unfold Reps at h
    obtain ⟨v, w, rfl, h1, h3⟩ := h
    rw [List.reverse_cons, List.reverse_cons]
    exact Reps.append (Reps.reverse h3) (Reps.cons h1 Reps.nil)
theorem Reps.ints : ∀ {ns : List Int} {vs : List V}, Reps K r G (ns.map D.int) vs → vs = ns.map V.int
  | [], _, h => by unfold Reps at h; exact h
  | n :: ns, vs, h => by
    unfold Reps at h
    obtain ⟨v, w, rfl, h1, h3⟩ := h
    unfold Rep at h1
    rw [h1, Reps.ints h3]; rfl
theorem Reps.of_ints : ∀ (ns : List Int), Reps K r G (ns.map D.int) (ns.map V.int)
  | [] => Reps.nil
  | n :: ns => Reps.cons (by unfold Rep; rfl) (Reps.of_ints ns)
end

/-! ### results -/
inductive Exn where
  | web (w : Str) | ask | log (n : Int) | text (n : Int)
inductive R (α : Type) where
  | ok (a : α)
  | exc (x : Exn) (rw : Rw)
  | stuck
def R.bind {α β : Type} (r : R α) (f : α → R β) : R β := match r with
  | .ok a => f a
  | .exc x w => .exc x w
  | .stuck => .stuck
inductive Sl where
  | no
  | val (d : D)
  | own (d : D)
abbrev Dl := List Sl
abbrev EM (α : Type) := Dl → Rw → R (α × Rw)
inductive Fl where
  | next | ret (d : D) | brk | cont
abbrev SM := Dl → Rw → R (Fl × Dl × Rw)
abbrev FD := List D → Rw → R (D × Rw)

/-! ### heaps that grow -/
/-- the defs of the program and of the laws that make a lambda -/
def lamNames : List Str := ["all_silent", "law", "_law_works", "_law_asks", "_law_logs"]
/-- the tables of their code objects, and what is made by them -/
def tabT (K : PySem.W.Frag) : List (Addr × Str) := lamNames.filterMap fun x => (PySem.W.tabIn K x).map fun p => (p.2, (x ++ (".<locals>." : Str)) ++ ("<lambda>" : Str))
/-- the tables of code objects stay good -/
def TabR (K : PySem.W.Frag) (H H' : Hp) : Prop := LamX.Tabs (tabT K) H → LamX.Tabs (tabT K) H'
theorem TabR.refl {K : PySem.W.Frag} (H : Hp) : TabR K H H := fun h => h
theorem TabR.trans {K : PySem.W.Frag} {H H1 H2 : Hp} (x : TabR K H H1) (y : TabR K H1 H2) : TabR K H H2 := fun h => y (x h)
def TbX (o : HO) : Prop := (∃ ps, o = .tbl ps) ∨ ∃ φ, o = .ext φ
theorem TabR.of {K : PySem.W.Frag} {H H' : Hp} (e : ∀ a o, H a = some o → TbX o → H' a = some o) : TabR K H H' := fun h p hp => by
  obtain ⟨ps, h1, h2, h3⟩ := h p hp
  refine ⟨ps, e _ _ h1 (.inl ⟨ps, rfl⟩), h2, fun pos cv hc => ?_⟩
  obtain ⟨c, e1, e2⟩ := h3 pos cv hc
  exact ⟨c, e1, e _ _ e2 (.inr ⟨_, rfl⟩)⟩
theorem TabR.put {K : PySem.W.Frag} {H : Hp} {p : Addr} {o : HO} (h : ∀ u, H p = some u → ¬ TbX u) : TabR K H (upd H p o) := TabR.of fun a u e t => by
  rw [upd_ne fun z => h u (by rw [← z]; exact e) t]; exact e
theorem TabR.new {K : PySem.W.Frag} {H : Hp} {p : Addr} {o : HO} (h : H p = none) : TabR K H (upd H p o) := TabR.put fun u e => by rw [h] at e; cases e
def nTb (o : HO) : Prop := ∀ ps, o ≠ .tbl ps
theorem nTb_lst {xs : List V} : nTb (.lst xs) := fun _ z => nomatch z
theorem nTb_dK {xs : List (Key × V)} : nTb (.dK xs) := fun _ z => nomatch z
/-- nothing tracked changes but the row and the tables; the visible heap grows by new things -/
structure Gr (K : PySem.W.Frag) (r : Option Addr) (H G H' G' : Hp) : Prop where
  h : ∀ a o, H a = some o → r ≠ some a → nTb o → H' a = some o
  g : Same G G'
  n : ∀ a o, G' a = some o → G a = some o ∨ (H a = none ∧ nTb o)
  s : Same G' H'
  t : ∀ a o, H a = some o → ∃ o', H' a = some o'
  tb : TabR K H H'
theorem Gr.refl {K : PySem.W.Frag} {r : Option Addr} {H G : Hp} (s : Same G H) : Gr K r H G H G := ⟨fun _ _ h _ _ => h, Same.refl _, fun _ _ h => .inl h, s, fun _ o h => ⟨o, h⟩, TabR.refl _⟩
theorem Gr.trans {K : PySem.W.Frag} {r : Option Addr} {H G H1 G1 H2 G2 : Hp} (x : Gr K r H G H1 G1) (y : Gr K r H1 G1 H2 G2) : Gr K r H G H2 G2 where
  h := fun a o h ne nt => y.h _ _ (x.h _ _ h ne nt) ne nt
  g := x.g.trans y.g
  n := fun a o h => by
    rcases y.n a o h with z | ⟨z, nt⟩
    · exact x.n a o z
    · cases q : H a with
      | none => exact .inr ⟨rfl, nt⟩
      | some u =>
        obtain ⟨u', e⟩ := x.t a u q
        rw [z] at e
        cases e
  s := y.s
  t := fun a o h => let ⟨_, e⟩ := x.t a o h; y.t _ _ e
  tb := x.tb.trans y.tb
theorem Gr.new {K : PySem.W.Frag} {r : Option Addr} {H G : Hp} (s : Same G H) {p : Addr} {o : HO} (hp : H p = none) (nt : nTb o := by exact fun _ z => nomatch z) : Gr K r H G (upd H p o) (upd G p o) where
  h := fun a u e _ _ => by rw [upd_ne (ne_of_none e hp)]; exact e
  g := fun a u e => by rw [upd_ne (ne_of_none (s _ _ e) hp)]; exact e
  n := fun a u e => by
    by_cases h : a = p
    · subst h; rw [upd_same] at e; cases e; exact .inr ⟨hp, nt⟩
    · rw [upd_ne h] at e; exact .inl e
  s := fun a u e => by
    by_cases h : a = p
    · subst h; rw [upd_same] at e ⊢; exact e
    · rw [upd_ne h] at e ⊢; exact s _ _ e
  t := fun a u e => ⟨u, by rw [upd_ne (ne_of_none e hp)]; exact e⟩
  tb := TabR.new hp
/-- a new object that is not shown -/
theorem Gr.newO {K : PySem.W.Frag} {r : Option Addr} {H G : Hp} (s : Same G H) {p : Addr} {o : HO} (hp : H p = none) : Gr K r H G (upd H p o) G where
  h := fun a u e _ _ => by rw [upd_ne (ne_of_none e hp)]; exact e
  g := Same.refl _
  n := fun a u e => .inl e
  s := fun a u e => by rw [upd_ne (ne_of_none (s _ _ e) hp)]; exact s _ _ e
  t := fun a u e => ⟨u, by rw [upd_ne (ne_of_none e hp)]; exact e⟩
  tb := TabR.new hp
/-- all that stood stays -/
theorem Gr.same {K : PySem.W.Frag} {r : Option Addr} {H G H' : Hp} (s : Same G H) (e : Same H H') : Gr K r H G H' G where
  h := fun a u q _ _ => e _ _ q
  g := Same.refl _
  n := fun a u e => .inl e
  s := s.trans e
  t := fun a u q => ⟨u, e _ _ q⟩
  tb := TabR.of fun a o q _ => e _ _ q

/-! ### the state of a body -/
structure C0 where
  r : Option Addr
  H0 : Hp
  G0 : Hp

def RowOk (K : PySem.W.Frag) (r : Option Addr) (rw : Rw) (H G : Hp) : Prop :=
  match r, rw with
  | none, none => True
  | some a, some w => G a = none ∧ ∃ v, H a = some (.lst [v, .int w.ix, .int w.mx]) ∧ Rep K r G (.scr w.ns) v
  | _, _ => False

/-- a list or a dict that one name alone holds -/
def Own (K : PySem.W.Frag) (C : C0) (H G : Hp) (d : D) (v : V) : Prop := ∃ p, v = .ref p ∧ G p = none ∧ C.H0 p = none ∧ C.r ≠ some p ∧
  match d with
  | .lst ds => ∃ vs, H p = some (.lst vs) ∧ vs.length ≤ sizeLine ∧ Reps K C.r G ds vs
  | .dic ks ds => ∃ kvs vs, H p = some (.dK kvs) ∧ kvs.length ≤ sizeLine ∧ kvs.map (·.1) = ks.map Sum.inl ∧ kvs.map (·.2) = vs ∧ Reps K C.r G ds vs
  | _ => False
def SlRep (K : PySem.W.Frag) (C : C0) (H G : Hp) : Sl → Option V → Prop
  | .no, _ => True
  | .val d, v => ∃ u, v = some u ∧ Rep K C.r G d u
  | .own d, v => ∃ u, v = some u ∧ Own K C H G d u

structure SR (K : PySem.W.Frag) (C : C0) (l : Dl) (rw : Rw) (σ : St) (H G : Hp) : Prop where
  sub : Same G H
  fr : ∀ a o, C.H0 a = some o → C.r ≠ some a → nTb o → H a = some o
  ft : ∀ a o, C.H0 a = some o → ∃ o', H a = some o'
  tabs : LamX.Tabs (tabT K) H
  g0 : Same C.G0 G
  gn : ∀ a o, G a = some o → C.G0 a = some o ∨ C.H0 a = none
  gt : ∀ a o, G a = some o → nTb o
  len : σ.length = l.length
  sl : ∀ (i : Nat) x, l[i]? = some x → ∃ v, σ[i]? = some v ∧ SlRep K C H G x v
  ow : ∀ (i j : Nat) d e p, i ≠ j → l[i]? = some (.own d) → l[j]? = some (.own e) → σ[i]? = some (some (.ref p)) → σ[j]? ≠ some (some (.ref p))
  row : RowOk K C.r rw H G

theorem RowOk.grow {K : PySem.W.Frag} {r : Option Addr} {rw : Rw} {H G H' G' : Hp} (h : RowOk K r rw H G) (e : Same H H') (g : Same G G') (n : ∀ a o, G' a = some o → G a = some o ∨ H a = none) : RowOk K r rw H' G' := by
  unfold RowOk at h ⊢
  cases r with
  | none => cases rw <;> exact h
  | some a =>
    cases rw with
    | none => exact h
    | some w =>
      obtain ⟨h1, v, h2, h3⟩ := h
      refine ⟨?_, v, e _ _ h2, h3.mono g⟩
      cases q : G' a with
      | none => rfl
      | some o =>
        rcases n a o q with z | z
        · rw [h1] at z; cases z
        · rw [h2] at z; cases z
theorem Own.grow {K : PySem.W.Frag} {C : C0} {H G H' G' : Hp} {d : D} {v : V} (h : Own K C H G d v) (x : Gr K C.r H G H' G') : Own K C H' G' d v := by
  obtain ⟨p, h1, h2, h3, h4, h5⟩ := h
  have key : ∀ o, H p = some o → G' p = none := fun o ho => by
    cases q : G' p with
    | none => rfl
    | some o' =>
      rcases x.n p o' q with z | ⟨z, _⟩
      · rw [h2] at z; cases z
      · rw [ho] at z; cases z
  cases d with
  | lst ds =>
    obtain ⟨vs, a1, a2, a3⟩ := h5
    exact ⟨p, h1, key _ a1, h3, h4, vs, x.h _ _ a1 h4 nTb_lst, a2, a3.mono x.g⟩
  | dic ks ds =>
    obtain ⟨kvs, vs, a1, a2, a3, a4, a5⟩ := h5
    exact ⟨p, h1, key _ a1, h3, h4, kvs, vs, x.h _ _ a1 h4 nTb_dK, a2, a3, a4, a5.mono x.g⟩
  | _ => exact h5.elim
theorem SlRep.grow {K : PySem.W.Frag} {C : C0} {H G H' G' : Hp} {x : Sl} {v : Option V} (h : SlRep K C H G x v) (g : Gr K C.r H G H' G') : SlRep K C H' G' x v := by
  cases x with
  | no => trivial
  | val d => obtain ⟨u, e, q⟩ := h; exact ⟨u, e, q.mono g.g⟩
  | own d => obtain ⟨u, e, q⟩ := h; exact ⟨u, e, q.grow g⟩
theorem SR.grow {K : PySem.W.Frag} {C : C0} {l : Dl} {rw rw' : Rw} {σ : St} {H G H' G' : Hp} (h : SR K C l rw σ H G) (g : Gr K C.r H G H' G') (w : RowOk K C.r rw' H' G') : SR K C l rw' σ H' G' := by
  refine ⟨g.s, fun a o e ne nt => g.h _ _ (h.fr a o e ne nt) ne nt, fun a o e => let ⟨o', e'⟩ := h.ft a o e; g.t a o' e', g.tb h.tabs, h.g0.trans g.g, fun a o e => ?_, fun a o e => (g.n a o e).elim (h.gt a o) And.right, h.len, fun i x e => ?_, h.ow, w⟩
  · rcases g.n a o e with z | ⟨z, _⟩
    · exact h.gn a o z
    · cases q : C.H0 a with
      | none => exact .inr rfl
      | some u =>
        obtain ⟨u', e'⟩ := h.ft a u q
        rw [z] at e'; cases e'
  · obtain ⟨v, e1, e2⟩ := h.sl i x e
    exact ⟨v, e1, e2.grow g⟩
/-- the same row content -/
theorem SR.grow0 {K : PySem.W.Frag} {C : C0} {l : Dl} {rw : Rw} {σ : St} {H G H' G' : Hp} (h : SR K C l rw σ H G) (e : Same H H') (g : Gr K C.r H G H' G') : SR K C l rw σ H' G' := h.grow g (h.row.grow e g.g fun a o z => (g.n a o z).imp id And.left)
theorem SR.new {K : PySem.W.Frag} {C : C0} {l : Dl} {rw : Rw} {σ : St} {H G : Hp} (h : SR K C l rw σ H G) {p : Addr} {o : HO} (hp : H p = none) (nt : nTb o := by exact fun _ z => nomatch z) : SR K C l rw σ (upd H p o) (upd G p o) :=
  h.grow0 (fun a u e => by rw [upd_ne (ne_of_none e hp)]; exact e) (Gr.new h.sub hp nt)
theorem SR.newO {K : PySem.W.Frag} {C : C0} {l : Dl} {rw : Rw} {σ : St} {H G : Hp} (h : SR K C l rw σ H G) {p : Addr} {o : HO} (hp : H p = none) : SR K C l rw σ (upd H p o) G :=
  h.grow0 (fun a u e => by rw [upd_ne (ne_of_none e hp)]; exact e) (Gr.newO h.sub hp)

/-! ### readings -/
/-- what is wanted of an exception -/
abbrev WD := Exn → St → Hp → Prop
/-- the result of an expression, brought on -/
def EPost (K : PySem.W.Frag) (W : WD) (C : C0) (l : Dl) (σ : St) (H G : Hp) (q : R (D × Rw)) (Q : VK) : Prop :=
  match q with
  | .ok (d, rw') => ∀ v H' G', SR K C l rw' σ H' G' → Gr K C.r H G H' G' → Rep K C.r G' d v → Q v H'
  | .exc x rw' => ∀ H' G', SR K C l rw' σ H' G' → W x σ H'
  | .stuck => False
def tD (K : PySem.W.Frag) (W : WD) (g : EM D) : TE := fun σ H Q => ∃ C l rw G, SR K C l rw σ H G ∧ EPost K W C l σ H G (g l rw) Q
/-- .. of one whose value is a new list or dict that nothing else holds -/
def OPost (K : PySem.W.Frag) (W : WD) (C : C0) (l : Dl) (σ : St) (H G : Hp) (q : R (D × Rw)) (Q : VK) : Prop :=
  match q with
  | .ok (d, rw') => ∀ p H' G', SR K C l rw' σ H' G' → Gr K C.r H G H' G' → H p = none → Own K C H' G' d (.ref p) → Q (.ref p) H'
  | .exc x rw' => ∀ H' G', SR K C l rw' σ H' G' → W x σ H'
  | .stuck => False
def tO (K : PySem.W.Frag) (W : WD) (g : EM D) : TE := fun σ H Q => ∃ C l rw G, SR K C l rw σ H G ∧ OPost K W C l σ H G (g l rw) Q
def TPost (K : PySem.W.Frag) (W : WD) (C : C0) (l : Dl) (σ : St) (H G : Hp) (q : R (Bool × Rw)) (Q : Bool → Hp → Prop) : Prop :=
  match q with
  | .ok (b, rw') => ∀ H' G', SR K C l rw' σ H' G' → Gr K C.r H G H' G' → Q b H'
  | .exc x rw' => ∀ H' G', SR K C l rw' σ H' G' → W x σ H'
  | .stuck => False
def tT (K : PySem.W.Frag) (W : WD) (g : EM Bool) : TT := fun σ H Q => ∃ C l rw G, SR K C l rw σ H G ∧ TPost K W C l σ H G (g l rw) Q
def APost (K : PySem.W.Frag) (W : WD) (C : C0) (l : Dl) (σ : St) (H G : Hp) (q : R (List D × Rw)) (Q : List V → Hp → Prop) : Prop :=
  match q with
  | .ok (ds, rw') => ∀ vs H' G', SR K C l rw' σ H' G' → Gr K C.r H G H' G' → Reps K C.r G' ds vs → Q vs H'
  | .exc x rw' => ∀ H' G', SR K C l rw' σ H' G' → W x σ H'
  | .stuck => False
def tA (K : PySem.W.Frag) (W : WD) (g : EM (List D)) : TA := fun σ H Q => ∃ C l rw G, SR K C l rw σ H G ∧ APost K W C l σ H G (g l rw) Q
/-- what a def hands back: a value, or a new thing (own) -/
def RetRep (K : PySem.W.Frag) (own : Bool) (C : C0) (H G : Hp) (d : D) (v : V) : Prop := if own = true then Own K C H G d v else Rep K C.r G d v
def SPost (K : PySem.W.Frag) (W : WD) (own : Bool) (C : C0) (q : R (Fl × Dl × Rw)) (E : Ends) : Prop :=
  match q with
  | .ok (.next, l', rw') => ∀ σ' H' G', SR K C l' rw' σ' H' G' → E.nx σ' H'
  | .ok (.ret d, l', rw') => ∀ v σ' H' G', SR K C l' rw' σ' H' G' → RetRep K own C H' G' d v → E.rt v H'
  | .ok (.brk, l', rw') => ∀ σ' H' G', SR K C l' rw' σ' H' G' → E.bk σ' H'
  | .ok (.cont, l', rw') => ∀ σ' H' G', SR K C l' rw' σ' H' G' → E.ct σ' H'
  | .exc x rw' => ∀ l' σ' H' G', SR K C l' rw' σ' H' G' → W x σ' H'
  | .stuck => False
def tS (K : PySem.W.Frag) (W : WD) (own : Bool) (g : SM) : TS := fun E σ H => ∃ C l rw G, SR K C l rw σ H G ∧ SPost K W own C (g l rw) E

abbrev DE (X : Cx) (W : WD) (e : Expr) (g : EM D) : Prop := PE X e (tD X.K W g)
abbrev DO (X : Cx) (W : WD) (e : Expr) (g : EM D) : Prop := PE X e (tO X.K W g)
abbrev DT (X : Cx) (W : WD) (e : Expr) (g : EM Bool) : Prop := PT X e (tT X.K W g)
abbrev DA (X : Cx) (W : WD) (es : List Expr) (g : EM (List D)) : Prop := PA X es (tA X.K W g)
abbrev DS (X : Cx) (W : WD) (own : Bool) (st : Stmt) (g : SM) : Prop := PS X st (tS X.K W own g)
abbrev DSs (X : Cx) (W : WD) (own : Bool) (st : List Stmt) (g : SM) : Prop := PSs X st (tS X.K W own g)

/-! ### weakening -/
theorem pe_imp {X : Cx} {e : Expr} {t t' : TE} (h : PE X e t) (i : ∀ σ H Q, t' σ H Q → t σ H Q) : PE X e t' := ⟨fun pins s σ H Q I q => h.run pins s σ H Q I (i σ H Q q)⟩
theorem pt_imp {X : Cx} {e : Expr} {t t' : TT} (h : PT X e t) (i : ∀ σ H Q, t' σ H Q → t σ H Q) : PT X e t' := ⟨fun pins s σ H Q I q => h.run pins s σ H Q I (i σ H Q q)⟩
theorem pw_imp {X : Cx} {e : Expr} {t t' : TT} (h : PW X e t) (i : ∀ σ H Q, t' σ H Q → t σ H Q) : PW X e t' := ⟨fun wh pins s σ H Q I q => h.run wh pins s σ H Q I (i σ H Q q)⟩
theorem pa_imp {X : Cx} {e : List Expr} {t t' : TA} (h : PA X e t) (i : ∀ σ H Q, t' σ H Q → t σ H Q) : PA X e t' := ⟨fun pos pins s σ H Q I q => h.run pos pins s σ H Q I (i σ H Q q)⟩
theorem ps_imp {X : Cx} {e : Stmt} {t t' : TS} (h : PS X e t) (i : ∀ E σ H, t' E σ H → t E σ H) : PS X e t' := ⟨fun pins s σ H E I q => h.run pins s σ H E I (i E σ H q)⟩
theorem pss_imp {X : Cx} {e : List Stmt} {t t' : TS} (h : PSs X e t) (i : ∀ E σ H, t' E σ H → t E σ H) : PSs X e t' := ⟨fun pins s σ H E I q => h.run pins s σ H E I (i E σ H q)⟩
section
variable {K : PySem.W.Frag} {W : WD} {C : C0} {l : Dl} {σ : St} {H G H' G' : Hp}
/-- a later look at the same wish -/
theorem EPost.later {q : R (D × Rw)} {Q : VK} (s : Gr K C.r H G H' G') (h : EPost K W C l σ H G q Q) : EPost K W C l σ H' G' q Q := by
  cases q with
  | ok p => exact fun v H2 G2 S' s' r => h v H2 G2 S' (s.trans s') r
  | exc x w => exact h
  | stuck => exact h
theorem TPost.later {q : R (Bool × Rw)} {Q : Bool → Hp → Prop} (s : Gr K C.r H G H' G') (h : TPost K W C l σ H G q Q) : TPost K W C l σ H' G' q Q := by
  cases q with
  | ok p => exact fun H2 G2 S' s' => h H2 G2 S' (s.trans s')
  | exc x w => exact h
  | stuck => exact h
theorem APost.later {q : R (List D × Rw)} {Q : List V → Hp → Prop} (s : Gr K C.r H G H' G') (h : APost K W C l σ H G q Q) : APost K W C l σ H' G' q Q := by
  cases q with
  | ok p => exact fun v H2 G2 S' s' r => h v H2 G2 S' (s.trans s') r
  | exc x w => exact h
  | stuck => exact h
theorem OPost.later {q : R (D × Rw)} {Q : VK} (s : Gr K C.r H G H' G') (h : OPost K W C l σ H G q Q) : OPost K W C l σ H' G' q Q := by
  cases q with
  | ok p => exact fun v H2 G2 S' s' f r => h v H2 G2 S' (s.trans s') (by
      cases e : H v with
      | none => rfl
      | some o => obtain ⟨o', z⟩ := s.t _ _ e; rw [f] at z; cases z) r
  | exc x w => exact h
  | stuck => exact h
end
/-! ### new things -/
def ObjD (K : PySem.W.Frag) (r : Option Addr) (G : Hp) : D → HO → Prop
  | .lst ds, o => ∃ vs, o = .lst vs ∧ vs.length ≤ sizeLine ∧ Reps K r G ds vs
  | .dic ks ds, o => ∃ kvs vs, o = .dK kvs ∧ kvs.length ≤ sizeLine ∧ kvs.map (·.1) = ks.map Sum.inl ∧ kvs.map (·.2) = vs ∧ Reps K r G ds vs
  | .tup ds, o => ∃ vs, o = .tup vs ∧ vs.length ≤ sizeLine ∧ Reps K r G ds vs
  | _, _ => False
section
variable {K : PySem.W.Frag} {W : WD} {C : C0} {l : Dl} {rw : Rw} {σ : St} {H G H' G' : Hp} {d : D} {o : HO} {p : Addr} {v : V}
def isDic : D → Bool
  | .dic _ _ => true
  | _ => false
theorem ObjD.rep {r : Option Addr} (h : ObjD K r G d o) (hp : G p = none) (hn : isDic d = false := by rfl) : Rep K r (upd G p o) d (.ref p) := by
  have m : Same G (upd G p o) := fun a u e => by rw [upd_ne (ne_of_none e hp)]; exact e
  cases d with
  | lst ds => obtain ⟨vs, rfl, h1, h2⟩ := h; unfold Rep; exact ⟨p, vs, rfl, upd_same, h1, h2.mono m⟩
  | dic ks ds => cases hn
  | tup ds => obtain ⟨vs, rfl, h1, h2⟩ := h; unfold Rep; exact ⟨p, vs, rfl, SqT.of upd_same, h1, h2.mono m⟩
  | _ => exact h.elim
theorem SR.h0none (S : SR K C l rw σ H G) (hp : H p = none) : C.H0 p = none ∧ C.r ≠ some p := by
  have hr : C.r ≠ some p := fun e => by
    have w := S.row
    unfold RowOk at w
    rw [e] at w
    cases rw with
    | none => exact w.elim
    | some x => obtain ⟨_, v, h2, _⟩ := w; rw [hp] at h2; cases h2
  refine ⟨?_, hr⟩
  cases e : C.H0 p with
  | none => rfl
  | some u => obtain ⟨u', e'⟩ := S.ft p u e; rw [hp] at e'; cases e'
theorem SR.gnone (S : SR K C l rw σ H G) (hp : H p = none) : G p = none := by
  cases e : G p with
  | none => rfl
  | some u => have := S.sub p u e; rw [hp] at this; cases this
def isLD : D → Bool
  | .lst _ => true
  | .dic _ _ => true
  | _ => false
theorem SR.ownNew (S : SR K C l rw σ H G) (hp : H p = none) (h : ObjD K C.r G d o) (hd : isLD d = true) : Own K C (upd H p o) G d (.ref p) := by
  obtain ⟨h0, hr⟩ := S.h0none hp
  refine ⟨p, rfl, S.gnone hp, h0, hr, ?_⟩
  cases d with
  | lst ds => obtain ⟨vs, rfl, h1, h2⟩ := h; exact ⟨vs, upd_same, h1, h2⟩
  | dic ks ds => obtain ⟨kvs, vs, rfl, h1, h2, h3, h4⟩ := h; exact ⟨kvs, vs, upd_same, h1, h2, h3, h4⟩
  | _ => cases hd
/-- an own thing is shown from now on -/
theorem Own.obj (h : Own K C H G d (.ref p)) : ∃ o, H p = some o ∧ ObjD K C.r G d o ∧ G p = none ∧ C.H0 p = none ∧ C.r ≠ some p ∧ isLD d = true ∧ ∀ ob u, o ≠ .frz ob u := by
  obtain ⟨q, e, h1, h2, h3, h4⟩ := h
  cases e
  cases d with
  | lst ds => obtain ⟨vs, a1, a2, a3⟩ := h4; exact ⟨_, a1, ⟨vs, rfl, a2, a3⟩, h1, h2, h3, rfl, fun _ _ z => nomatch z⟩
  | dic ks ds => obtain ⟨kvs, vs, a1, a2, a3, a4, a5⟩ := h4; exact ⟨_, a1, ⟨kvs, vs, rfl, a2, a3, a4, a5⟩, h1, h2, h3, rfl, fun _ _ z => nomatch z⟩
  | _ => exact h4.elim
theorem Own.nt (h : Own K C H G d (.ref p)) (ho : H p = some o) : nTb o := by
  obtain ⟨q, e, h1, h2, h3, h4⟩ := h
  cases e
  cases d with
  | lst ds => obtain ⟨vs, a1, _⟩ := h4; rw [ho] at a1; cases a1; exact nTb_lst
  | dic ks ds => obtain ⟨kvs, vs, a1, _⟩ := h4; rw [ho] at a1; cases a1; exact nTb_dK
  | _ => exact h4.elim
theorem SR.freeze (S : SR K C l rw σ H G) (ho : H p = some o) (nt : nTb o) (hg : G p = none) (h0 : C.H0 p = none) (hr : C.r ≠ some p) (nx : ∀ (i : Nat) e, l[i]? = some (.own e) → σ[i]? ≠ some (some (.ref p))) : SR K C l rw σ H (upd G p o) := by
  have m : Same G (upd G p o) := fun a u e => by rw [upd_ne (ne_of_none e hg)]; exact e
  refine ⟨fun a u e => ?_, S.fr, S.ft, S.tabs, S.g0.trans m, fun a u e => ?_, fun a u e => ?_, S.len, fun i x e => ?_, S.ow, ?_⟩
  · by_cases h : a = p
    · subst h; rw [upd_same] at e; rw [ho]; exact e
    · rw [upd_ne h] at e; exact S.sub a u e
  · by_cases h : a = p
    · subst h; exact .inr h0
    · rw [upd_ne h] at e; exact S.gn a u e
  · by_cases h : a = p
    · subst h; rw [upd_same] at e; cases e; exact nt
    · rw [upd_ne h] at e; exact S.gt a u e
  · obtain ⟨v, e1, e2⟩ := S.sl i x e
    refine ⟨v, e1, ?_⟩
    cases x with
    | no => trivial
    | val d => obtain ⟨u, e3, q⟩ := e2; exact ⟨u, e3, q.mono m⟩
    | own d =>
      obtain ⟨u, e3, q, a1, a2, a3, a4, a5⟩ := e2
      subst e3 a1
      have ne : q ≠ p := fun z => nx i d e (by rw [e1, z])
      refine ⟨_, rfl, q, rfl, by rw [upd_ne ne]; exact a2, a3, a4, ?_⟩
      cases d with
      | lst ds => obtain ⟨vs, b1, b2, b3⟩ := a5; exact ⟨vs, b1, b2, b3.mono m⟩
      | dic ks ds => obtain ⟨kvs, vs, b1, b2, b3, b4, b5⟩ := a5; exact ⟨kvs, vs, b1, b2, b3, b4, b5.mono m⟩
      | _ => exact a5.elim
  · have w := S.row
    unfold RowOk at w ⊢
    cases e : C.r with
    | none => rw [e] at w; cases rw <;> exact w
    | some a =>
      rw [e] at w
      cases rw with
      | none => exact w
      | some x =>
        obtain ⟨w1, v, w2, w3⟩ := w
        have ne : a ≠ p := fun z => hr (by rw [e, z])
        exact ⟨by rw [upd_ne ne]; exact w1, v, w2, w3.mono m⟩
theorem SR.lock {od : Obj} (S : SR K C l rw σ H G) (ho : H p = some o) (hg : G p = none) (h0 : C.H0 p = none) (hr : C.r ≠ some p) (nx : ∀ (i : Nat) e, l[i]? = some (.own e) → σ[i]? ≠ some (some (.ref p))) (nt : ¬ TbX o) : SR K C l rw σ (upd H p (.frz od o)) (upd G p (.frz od o)) := by
  have m : Same G (upd G p (.frz od o)) := fun a u e => by rw [upd_ne (ne_of_none e hg)]; exact e
  refine ⟨fun a u e => ?_, fun a u e ne nt => ?_, fun a u e => ?_, (TabR.put fun u e => by rw [ho] at e; cases e; exact nt) S.tabs, S.g0.trans m, fun a u e => ?_, fun a u e => ?_, S.len, fun i x e => ?_, S.ow, ?_⟩
  · by_cases h : a = p
    · subst h; rw [upd_same] at e ⊢; exact e
    · rw [upd_ne h] at e ⊢; exact S.sub a u e
  · rw [upd_ne (ne_of_none e h0)]; exact S.fr a u e ne nt
  · by_cases h : a = p
    · subst h; exact ⟨_, upd_same⟩
    · rw [upd_ne h]; exact S.ft a u e
  · by_cases h : a = p
    · subst h; exact .inr h0
    · rw [upd_ne h] at e; exact S.gn a u e
  · by_cases h : a = p
    · subst h; rw [upd_same] at e; cases e; exact fun _ z => nomatch z
    · rw [upd_ne h] at e; exact S.gt a u e
  · obtain ⟨v, e1, e2⟩ := S.sl i x e
    refine ⟨v, e1, ?_⟩
    cases x with
    | no => trivial
    | val d => obtain ⟨u, e3, q⟩ := e2; exact ⟨u, e3, q.mono m⟩
    | own d =>
      obtain ⟨u, e3, q, a1, a2, a3, a4, a5⟩ := e2
      subst e3 a1
      have ne : q ≠ p := fun z => nx i d e (by rw [e1, z])
      refine ⟨_, rfl, q, rfl, by rw [upd_ne ne]; exact a2, a3, a4, ?_⟩
      cases d with
      | lst ds => obtain ⟨vs, b1, b2, b3⟩ := a5; exact ⟨vs, by rw [upd_ne ne]; exact b1, b2, b3.mono m⟩
      | dic ks ds => obtain ⟨kvs, vs, b1, b2, b3, b4, b5⟩ := a5; exact ⟨kvs, vs, by rw [upd_ne ne]; exact b1, b2, b3, b4, b5.mono m⟩
      | _ => exact a5.elim
  · have w := S.row
    unfold RowOk at w ⊢
    cases e : C.r with
    | none => rw [e] at w; cases rw <;> exact w
    | some a =>
      rw [e] at w
      cases rw with
      | none => exact w
      | some x =>
        obtain ⟨w1, v, w2, w3⟩ := w
        have ne : a ≠ p := fun z => hr (by rw [e, z])
        exact ⟨by rw [upd_ne ne]; exact w1, v, by rw [upd_ne ne]; exact w2, w3.mono m⟩
theorem Gr.lock {r : Option Addr} {H1 G1 : Hp} {od : Obj} (g : Gr K r H G H1 G1) (hp : H p = none) (ho : H1 p = some o) (hg : G1 p = none) (nt : ¬ TbX o) : Gr K r H G (upd H1 p (.frz od o)) (upd G1 p (.frz od o)) where
  h := fun a u e ne nt => by rw [upd_ne (ne_of_none e hp)]; exact g.h a u e ne nt
  g := g.g.trans fun a u e => by rw [upd_ne (ne_of_none e hg)]; exact e
  n := fun a u e => by
    by_cases h : a = p
    · subst h; rw [upd_same] at e; cases e; exact .inr ⟨hp, fun _ z => nomatch z⟩
    · rw [upd_ne h] at e; exact g.n a u e
  s := fun a u e => by
    by_cases h : a = p
    · subst h; rw [upd_same] at e ⊢; exact e
    · rw [upd_ne h] at e ⊢; exact g.s a u e
  t := fun a u e => by rw [upd_ne (ne_of_none e hp)]; exact g.t a u e
  tb := g.tb.trans (TabR.put fun u e => by rw [ho] at e; cases e; exact nt)
theorem ObjD.repK {r : Option Addr} {ks : List Int} {ds : List D} {od : Obj} (h : ObjD K r G (.dic ks ds) o) (hp : G p = none) : Rep K r (upd G p (.frz od o)) (.dic ks ds) (.ref p) := by
  have m : Same G (upd G p (.frz od o)) := fun a u e => by rw [upd_ne (ne_of_none e hp)]; exact e
  obtain ⟨kvs, vs, rfl, h1, h2, h3, h4⟩ := h
  unfold Rep
  exact ⟨p, od, kvs, vs, rfl, upd_same, h1, h2, h3, h4.mono m⟩
theorem nTE_lst {xs : List V} : ¬ TbX (.lst xs) := fun h => h.elim (fun ⟨_, z⟩ => nomatch z) fun ⟨_, z⟩ => nomatch z
theorem nTE_dK {xs : List (Key × V)} : ¬ TbX (.dK xs) := fun h => h.elim (fun ⟨_, z⟩ => nomatch z) fun ⟨_, z⟩ => nomatch z
/-- a tracked thing may be locked for good -/
def tMayLock (t : TE) : TE := fun σ H Q => t σ H fun v H' => Q v H' ∨ ∃ p u, v = .ref p ∧ H' p = some u ∧ Mut (some u) ∧ ∀ od, Q v (upd H' p (.frz od u))
theorem pe_mayLock {X : Cx} {e : Expr} {t : TE} (h : PE X e t) : PE X e (tMayLock t) := by
  refine ⟨fun pins s σ H Q I hq => ?_⟩
  refine thn (h.run pins s σ H _ I hq) fun v s1 ⟨x, H1, I1, r, q⟩ => ?_
  rcases q with q | ⟨p, u, e, hu, mu, q⟩
  · exact ⟨x, H1, I1, r, q⟩
  · obtain ⟨od, I2⟩ := I1.lock hu mu
    exact ⟨x, _, I2, r, q od⟩
/-- .. ahead of a block -/
def tLocked (t : TS) : TS := fun E σ H => t E σ H ∨ ∃ p u, H p = some u ∧ Mut (some u) ∧ ∀ od, t E σ (upd H p (.frz od u))
theorem pss_locked {X : Cx} {e : List Stmt} {t : TS} (h : PSs X e t) : PSs X e (tLocked t) := by
  refine ⟨fun pins s σ H E I hq => ?_⟩
  rcases hq with q | ⟨p, u, hu, mu, q⟩
  · exact h.run pins s σ H E I q
  · obtain ⟨od, I2⟩ := I.lock hu mu
    exact h.run pins s σ _ E I2 (q od)
end
end HD
end
section
/-! Rules of the data layer: expressions. -/
namespace HD
open PySem PySem.Spec L2
open PyProof.Rows hiding St

def ofO {α : Type} (o : Option α) (rw : Rw) : R (α × Rw) := match o with
  | some a => .ok (a, rw)
  | none => .stuck
def eBin (f : D → D → Option D) (g1 g2 : EM D) : EM D := fun l rw => (g1 l rw).bind fun p => (g2 l p.2).bind fun q => ofO (f p.1 q.1) q.2
def eUn (f : D → Option D) (g : EM D) : EM D := fun l rw => (g l rw).bind fun p => ofO (f p.1) p.2
def aNil : EM (List D) := fun _ rw => .ok ([], rw)
def aCons (g : EM D) (r : EM (List D)) : EM (List D) := fun l rw => (g l rw).bind fun p => (r l p.2).bind fun q => .ok (p.1 :: q.1, q.2)
def eArgs (f : List D → Option D) (g : EM (List D)) : EM D := fun l rw => (g l rw).bind fun p => ofO (f p.1) p.2
def eK (d : D) : EM D := fun _ rw => .ok (d, rw)
def eV (i : Nat) : EM D := fun l rw => match l[i]? with
  | some (.val d) => .ok (d, rw)
  | _ => .stuck
def toB (g : EM D) : EM Bool := fun l rw => (g l rw).bind fun p => match p.1 with
  | .bl b => .ok (b, p.2)
  | _ => .stuck
def eIf (c : EM Bool) (a b : EM D) : EM D := fun l rw => (c l rw).bind fun p => if p.1 = true then a l p.2 else b l p.2
def tAnd' (a b : EM Bool) : EM Bool := fun l rw => (a l rw).bind fun p => if p.1 = true then b l p.2 else .ok (false, p.2)
def tOr' (a b : EM Bool) : EM Bool := fun l rw => (a l rw).bind fun p => if p.1 = true then .ok (true, p.2) else b l p.2
def tNot' (a : EM Bool) : EM Bool := fun l rw => (a l rw).bind fun p => .ok (!p.1, p.2)
def vAnd (a b : EM D) : EM D := fun l rw => (a l rw).bind fun p => match p.1 with
  | .bl true => b l p.2
  | .bl false => .ok (.bl false, p.2)
  | _ => .stuck
def vOr (a b : EM D) : EM D := fun l rw => (a l rw).bind fun p => match p.1 with
  | .bl true => .ok (.bl true, p.2)
  | .bl false => b l p.2
  | _ => .stuck
def vNot (a : EM D) : EM D := fun l rw => (a l rw).bind fun p => match p.1 with
  | .bl b => .ok (.bl (!b), p.2)
  | _ => .stuck
/-- a < b < c -/
def eChain (f f' : D → D → Option D) (ga gb gc : EM D) : EM D := fun l rw => (ga l rw).bind fun p => (gb l p.2).bind fun q => match f p.1 q.1 with
  | some (.bl true) => (gc l q.2).bind fun t => ofO (f' q.1 t.1) t.2
  | some (.bl false) => .ok (.bl false, q.2)
  | _ => .stuck
def isNonD : D → Option D
  | .raw _ => none
  | .non => some (.bl true)
  | _ => some (.bl false)
def notNonD : D → Option D
  | .raw _ => none
  | .non => some (.bl false)
  | _ => some (.bl true)

/-! ### one thing, then the rest -/
section
variable {K : PySem.W.Frag} {W : WD} {C : C0} {l : Dl} {rw : Rw} {σ : St} {H G : Hp} {β : Type}
theorem seqD {g : EM D} {k : D × Rw → R β} {P : R β → Prop} {Q' : VK} (S : SR K C l rw σ H G) (hp : P ((g l rw).bind k)) (hx : ∀ x w, P (.exc x w) → ∀ H' G', SR K C l w σ H' G' → W x σ H') (hs : P .stuck → False)
    (f : ∀ d rw' v H' G', SR K C l rw' σ H' G' → Gr K C.r H G H' G' → Rep K C.r G' d v → P (k (d, rw')) → Q' v H') : tD K W g σ H Q' := by
  refine ⟨C, l, rw, G, S, ?_⟩
  cases e1 : g l rw with
  | exc x w => rw [e1] at hp; exact hx x w hp
  | stuck => rw [e1] at hp; exact (hs hp).elim
  | ok p =>
    obtain ⟨d, rw'⟩ := p
    rw [e1] at hp
    exact fun v H' G' S' s r => f d rw' v H' G' S' s r hp
theorem seqO {g : EM D} {k : D × Rw → R β} {P : R β → Prop} {Q' : VK} (S : SR K C l rw σ H G) (hp : P ((g l rw).bind k)) (hx : ∀ x w, P (.exc x w) → ∀ H' G', SR K C l w σ H' G' → W x σ H') (hs : P .stuck → False)
    (f : ∀ d rw' p H' G', SR K C l rw' σ H' G' → Gr K C.r H G H' G' → H p = none → Own K C H' G' d (.ref p) → P (k (d, rw')) → Q' (.ref p) H') : tO K W g σ H Q' := by
  refine ⟨C, l, rw, G, S, ?_⟩
  cases e1 : g l rw with
  | exc x w => rw [e1] at hp; exact hx x w hp
  | stuck => rw [e1] at hp; exact (hs hp).elim
  | ok p =>
    obtain ⟨d, rw'⟩ := p
    rw [e1] at hp
    exact fun p H' G' S' s f0 r => f d rw' p H' G' S' s f0 r hp
theorem seqT {g : EM Bool} {k : Bool × Rw → R β} {P : R β → Prop} {Q' : Bool → Hp → Prop} (S : SR K C l rw σ H G) (hp : P ((g l rw).bind k)) (hx : ∀ x w, P (.exc x w) → ∀ H' G', SR K C l w σ H' G' → W x σ H') (hs : P .stuck → False)
    (f : ∀ b rw' H' G', SR K C l rw' σ H' G' → Gr K C.r H G H' G' → P (k (b, rw')) → Q' b H') : tT K W g σ H Q' := by
  refine ⟨C, l, rw, G, S, ?_⟩
  cases e1 : g l rw with
  | exc x w => rw [e1] at hp; exact hx x w hp
  | stuck => rw [e1] at hp; exact (hs hp).elim
  | ok p =>
    obtain ⟨d, rw'⟩ := p
    rw [e1] at hp
    exact fun H' G' S' s => f d rw' H' G' S' s hp
theorem seqA {g : EM (List D)} {k : List D × Rw → R β} {P : R β → Prop} {Q' : List V → Hp → Prop} (S : SR K C l rw σ H G) (hp : P ((g l rw).bind k)) (hx : ∀ x w, P (.exc x w) → ∀ H' G', SR K C l w σ H' G' → W x σ H') (hs : P .stuck → False)
    (f : ∀ ds rw' vs H' G', SR K C l rw' σ H' G' → Gr K C.r H G H' G' → Reps K C.r G' ds vs → P (k (ds, rw')) → Q' vs H') : tA K W g σ H Q' := by
  refine ⟨C, l, rw, G, S, ?_⟩
  cases e1 : g l rw with
  | exc x w => rw [e1] at hp; exact hx x w hp
  | stuck => rw [e1] at hp; exact (hs hp).elim
  | ok p =>
    obtain ⟨d, rw'⟩ := p
    rw [e1] at hp
    exact fun vs H' G' S' s r => f d rw' vs H' G' S' s r hp
end
abbrev PEq (K : PySem.W.Frag) (W : WD) (C : C0) (l : Dl) (σ : St) (H G : Hp) (Q : VK) : R (D × Rw) → Prop := fun q => EPost K W C l σ H G q Q
abbrev PTq (K : PySem.W.Frag) (W : WD) (C : C0) (l : Dl) (σ : St) (H G : Hp) (Q : Bool → Hp → Prop) : R (Bool × Rw) → Prop := fun q => TPost K W C l σ H G q Q
abbrev PAq (K : PySem.W.Frag) (W : WD) (C : C0) (l : Dl) (σ : St) (H G : Hp) (Q : List V → Hp → Prop) : R (List D × Rw) → Prop := fun q => APost K W C l σ H G q Q
abbrev POq (K : PySem.W.Frag) (W : WD) (C : C0) (l : Dl) (σ : St) (H G : Hp) (Q : VK) : R (D × Rw) → Prop := fun q => OPost K W C l σ H G q Q
abbrev PSq (K : PySem.W.Frag) (W : WD) (own : Bool) (C : C0) (E : Ends) : R (Fl × Dl × Rw) → Prop := fun q => SPost K W own C q E

section
variable {X : Cx} {W : WD}

/-! ### values of two values: what an operator's rule gives -/
def OpD (K : PySem.W.Frag) (r : R2) (f : D → D → Option D) : Prop := ∀ (o : Option Addr) (G H : Hp) (d1 d2 : D) (v1 v2 : V) (d : D) (Q : VK), Same G H → Rep K o G d1 v1 → Rep K o G d2 v2 → f d1 d2 = some d →
  (∀ v H' G', Same H H' → Gr K o H G H' G' → Rep K o G' d v → Q v H') → r v1 v2 H Q
/-- .. that lays nothing -/
def CmpD (K : PySem.W.Frag) (r : R2) (f : D → D → Option D) : Prop := ∀ (o : Option Addr) (G H : Hp) (d1 d2 : D) (v1 v2 : V) (d : D) (Q : VK), Same G H → Rep K o G d1 v1 → Rep K o G d2 v2 → f d1 d2 = some d →
  (∀ v, Rep K o G d v → Q v H) → r v1 v2 H Q
theorem CmpD.op {K : PySem.W.Frag} {r : R2} {f : D → D → Option D} (h : CmpD K r f) : OpD K r f := fun o G H d1 d2 v1 v2 d Q s r1 r2 e q => h o G H d1 d2 v1 v2 d Q s r1 r2 e fun v rv => q v H G (Same.refl _) (Gr.refl s) rv
def UnD (K : PySem.W.Frag) (r : V → Hp → VK → Prop) (f : D → Option D) : Prop := ∀ (o : Option Addr) (G H : Hp) (d1 : D) (v1 : V) (d : D) (Q : VK), Same G H → Rep K o G d1 v1 → f d1 = some d →
  (∀ v H' G', Same H H' → Gr K o H G H' G' → Rep K o G' d v → Q v H') → r v1 H Q
def ArD (K : PySem.W.Frag) (r : List V → Hp → VK → Prop) (f : List D → Option D) : Prop := ∀ (o : Option Addr) (G H : Hp) (ds : List D) (vs : List V) (d : D) (Q : VK), Same G H → Reps K o G ds vs → f ds = some d →
  (∀ v H' G', Same H H' → Gr K o H G H' G' → Rep K o G' d v → Q v H') → r vs H Q
/-- a built-in that lays a new list (or dict) -/
def ArN (K : PySem.W.Frag) (r : List V → Hp → VK → Prop) (f : List D → Option D) : Prop := ∀ (o : Option Addr) (G H : Hp) (ds : List D) (vs : List V) (d : D) (Q : VK), Same G H → Reps K o G ds vs → f ds = some d →
  isLD d = true ∧ ((∀ p H1 ob, Same H H1 → H1 p = none → ObjD K o G d ob → Q (.ref p) (upd H1 p ob)) → r vs H Q)

theorem red2 {r : R2} {f : D → D → Option D} {ga gb : EM D} (h : OpD X.K r f) : ∀ σ H Q, tD X.K W (eBin f ga gb) σ H Q → tOp r (tD X.K W ga) (tD X.K W gb) σ H Q := by
  intro σ H Q hq
  obtain ⟨C, l, rw, G, S, hp⟩ := hq
  refine seqD (P := PEq X.K W C l σ H G Q) S hp (fun _ _ z => z) (fun z => z) fun d1 rw1 v1 H1 G1 S1 s1 r1 h1 => ?_
  refine seqD (P := PEq X.K W C l σ H G Q) S1 h1 (fun _ _ z => z) (fun z => z) fun d2 rw2 v2 H2 G2 S2 s2 r2 h2 => ?_
  dsimp only [PEq] at h2
  cases e3 : f d1 d2 with
  | none => rw [e3] at h2; exact h2.elim
  | some d =>
    rw [e3] at h2
    exact h C.r G2 H2 d1 d2 v1 v2 d Q S2.sub (r1.mono s2.g) r2 e3 fun v H' G' sh g r => h2 v H' G' (S2.grow0 sh g) ((s1.trans s2).trans g) r
theorem de_op {op : Operator} {r : R2} {f : D → D → Option D} {a b : Expr} {ga gb : EM D} {pos : Pos} (ho : OpR X (binaryOp op) r) (h : OpD X.K r f) (ha : DE X W a ga) (hb : DE X W b gb) : DE X W (.BinOp a op b pos) (eBin f ga gb) := pe_imp (pe_op ho ha hb) (red2 h)
theorem de_cmp {op : CmpOp} {r : R2} {f : D → D → Option D} {a b : Expr} {ga gb : EM D} {pos : Pos} (ho : OpR X (compareOp op) r) (h : OpD X.K r f) (ha : DE X W a ga) (hb : DE X W b gb) (hm : behindInMarks op b = false) : DE X W (.Compare a [op] [b] pos) (eBin f ga gb) := pe_imp (pe_cmpR ho ha hb hm) (red2 h)
theorem de_ix {r : R2} {f : D → D → Option D} {a b : Expr} {ga gb : EM D} {pos : Pos} (ho : IxR X r) (h : OpD X.K r f) (ha : DE X W a ga) (hb : DE X W b gb) (hs : PlainIx b) : DE X W (.Subscript a b pos) (eBin f ga gb) := pe_imp (pe_ix ho ha hb hs) (red2 h)
theorem de_un {op : UnaryOp} {r : V → Hp → VK → Prop} {f : D → Option D} {a : Expr} {g : EM D} {pos : Pos} (ho : UnR X (unaryOp op) r) (h : UnD X.K r f) (ha : DE X W a g) : DE X W (.UnaryOp op a pos) (eUn f g) := by
  refine pe_imp (pe_un ho ha) fun σ H Q hq => ?_
  obtain ⟨C, l, rw, G, S, hp⟩ := hq
  refine seqD (P := PEq X.K W C l σ H G Q) S hp (fun _ _ z => z) (fun z => z) fun d1 rw1 v1 H1 G1 S1 s1 r1 h1 => ?_
  dsimp only [PEq] at h1
  cases e3 : f d1 with
  | none => rw [e3] at h1; exact h1.elim
  | some d =>
    rw [e3] at h1
    exact h C.r G1 H1 d1 v1 d Q S1.sub r1 e3 fun v H' G' sh g r => h1 v H' G' (S1.grow0 sh g) (s1.trans g) r

/-! ### names, constants -/
theorem de_var {i : Nat} {x : Str} {pos : Pos} (h : PE X (.Name x pos) (tVar i)) : DE X W (.Name x pos) (eV i) := by
  refine pe_imp h fun σ H Q hq => ?_
  obtain ⟨C, l, rw, G, S, hp⟩ := hq
  unfold eV at hp
  cases e : l[i]? with
  | none => rw [e] at hp; exact hp.elim
  | some x =>
    rw [e] at hp
    cases x with
    | no => exact hp.elim
    | own d => exact hp.elim
    | val d =>
      obtain ⟨v, e1, u, e2, r⟩ := S.sl i _ e
      subst e2
      exact ⟨u, e1, hp u H G S (Gr.refl S.sub) r⟩
theorem de_k {e : Expr} {v : V} {d : D} (h : PE X e (tC v)) (r : ∀ o G, Rep X.K o G d v) : DE X W e (eK d) := by
  refine pe_imp h fun σ H Q hq => ?_
  obtain ⟨C, l, rw, G, S, hp⟩ := hq
  exact hp v H G S (Gr.refl S.sub) (r _ _)
theorem de_int {i j pos} : DE X W (.Constant (.int i) j pos) (eK (.int i)) := de_k pe_int fun _ _ => by unfold Rep; rfl
theorem de_bl {b j pos} : DE X W (.Constant (.bool b) j pos) (eK (.bl b)) := de_k pe_bl fun _ _ => by unfold Rep; rfl
theorem de_non {j pos} : DE X W (.Constant .none j pos) (eK .non) := de_k pe_non fun _ _ => by unfold Rep; rfl
theorem de_str {x j pos} : DE X W (.Constant (.str x) j pos) (eK (.str x)) := de_k pe_str fun _ _ => by unfold Rep; rfl
/-- a module's constant: a number -/
theorem de_gint {x : Str} {i : Int} {pos : Pos} (hg : Gl X x) (hm : ∃ t, X.mg x = some (.int i t)) (hd : (x == ("__debug__" : Str)) = false := by decide) : DE X W (.Name x pos) (eK (.int i)) := by
  obtain ⟨t, hm⟩ := hm
  exact de_k (v := .int i) (pe_glob hg hm ⟨t, rfl⟩ hd) fun _ _ => by unfold Rep; rfl
theorem de_gstr {x z : Str} {pos : Pos} (hg : Gl X x) (hm : ∃ t, X.mg x = some (.str z t)) (hd : (x == ("__debug__" : Str)) = false := by decide) : DE X W (.Name x pos) (eK (.str z)) := by
  obtain ⟨t, hm⟩ := hm
  exact de_k (v := .str z) (pe_glob hg hm ⟨t, rfl⟩ hd) fun _ _ => by unfold Rep; rfl
theorem de_gref {x : Str} {a : Addr} {d : D} {pos : Pos} (hg : Gl X x) (hm : X.mg x = some (.ref a)) (r : ∀ o G, Rep X.K o G d (.ref a)) (hd : (x == ("__debug__" : Str)) = false := by decide) : DE X W (.Name x pos) (eK d) :=
  de_k (v := .ref a) (pe_glob hg hm rfl hd) r
theorem de_gty {x : Str} {n : String} {pos : Pos} (hg : Gl X x) (hm : X.mg x = none) (hv : bootBuiltins x = some (.type n)) (hn : x ≠ "__name__" := by decide) (hd : (x == ("__debug__" : Str)) = false := by decide) : DE X W (.Name x pos) (eK (.raw (.ty n))) :=
  de_k (v := .ty n) (pe_bltn hg hm hv rfl hn hd) fun _ _ => by unfold Rep; rfl

/-! ### argument lists, displays -/
theorem da_nil : DA X W [] aNil := by
  refine pa_imp pa_nil fun σ H Q hq => ?_
  obtain ⟨C, l, rw, G, S, hp⟩ := hq
  exact hp [] H G S (Gr.refl S.sub) Reps.nil
theorem da_cons {e : Expr} {es : List Expr} {g : EM D} {r : EM (List D)} (ha : DE X W e g) (hr : DA X W es r) (hs : starEach (e :: es) X.env = (false, eval e X.env) :: starEach es X.env := by rfl) : DA X W (e :: es) (aCons g r) := by
  refine pa_imp (pa_cons ha hr hs) fun σ H Q hq => ?_
  obtain ⟨C, l, rw, G, S, hp⟩ := hq
  refine seqD (P := PAq X.K W C l σ H G Q) S hp (fun _ _ z => z) (fun z => z) fun d1 rw1 v1 H1 G1 S1 s1 r1 h1 => ?_
  refine seqA (P := PAq X.K W C l σ H G Q) S1 h1 (fun _ _ z => z) (fun z => z) fun ds rw2 vs H2 G2 S2 s2 r2 h2 => ?_
  exact h2 (v1 :: vs) H2 G2 S2 (s1.trans s2) (Reps.cons (r1.mono s2.g) r2)
/-- (a, b, ..) -/
def eTup (g : EM (List D)) : EM D := eArgs (fun ds => if ds.length ≤ sizeLine then some (.tup ds) else none) g
theorem de_tup {es : List Expr} {k : Nat} {g : EM (List D)} {pos : Pos} (h : DA X W es g) : DE X W (.Tuple es k pos) (eTup g) := by
  refine pe_imp (pe_tup h) fun σ H Q hq => ?_
  obtain ⟨C, l, rw, G, S, hp⟩ := hq
  refine seqA (P := PEq X.K W C l σ H G Q) S hp (fun _ _ z => z) (fun z => z) fun ds rw1 vs H1 G1 S1 s1 r1 h1 => ?_
  dsimp only [PEq] at h1
  have hl := r1.length
  by_cases hz : ds.length ≤ sizeLine
  · rw [if_pos hz] at h1
    refine ⟨by rw [← hl]; exact hz, fun p hp' => ?_⟩
    exact h1 (.ref p) _ _ (S1.new hp') (s1.trans (Gr.new S1.sub hp')) (ObjD.rep ⟨vs, rfl, by rw [← hl]; exact hz, r1⟩ (S1.gnone hp'))
  · rw [if_neg hz] at h1; exact h1.elim
/-- [a, b, ..], a new list -/
def eLst (g : EM (List D)) : EM D := eArgs (fun ds => if ds.length ≤ sizeLine then some (.lst ds) else none) g
theorem do_lst {es : List Expr} {g : EM (List D)} {pos : Pos} (h : DA X W es g) : DO X W (.List es pos) (eLst g) := by
  refine pe_imp (pe_lst h) fun σ H Q hq => ?_
  obtain ⟨C, l, rw, G, S, hp⟩ := hq
  refine seqA (P := POq X.K W C l σ H G Q) S hp (fun _ _ z => z) (fun z => z) fun ds rw1 vs H1 G1 S1 s1 r1 h1 => ?_
  dsimp only [POq] at h1
  have hl := r1.length
  by_cases hz : ds.length ≤ sizeLine
  · rw [if_pos hz] at h1
    refine ⟨by rw [← hl]; exact hz, fun p hp' => ?_⟩
    refine h1 p _ _ (S1.newO hp') (s1.trans (Gr.newO S1.sub hp')) ?_ (S1.ownNew hp' ⟨vs, rfl, by rw [← hl]; exact hz, r1⟩ rfl)
    cases e : H p with
    | none => rfl
    | some o => obtain ⟨o', z⟩ := s1.t _ _ e; rw [hp'] at z; cases z
  · rw [if_neg hz] at h1; exact h1.elim
/-- a new thing, shown at once: a list as it is, a dict locked from now on -/
theorem redFrzL {K : PySem.W.Frag} {C : C0} {l : Dl} {rw : Rw} {σ : St} {H G H' G' : Hp} {d : D} {p : Addr} (hd : isDic d = false) (S0 : SR K C l rw σ H G) {rw' : Rw} (S' : SR K C l rw' σ H' G') (s : Gr K C.r H G H' G') (f : H p = none) (ow : Own K C H' G' d (.ref p)) :
    ∃ G2, SR K C l rw' σ H' G2 ∧ Gr K C.r H G H' G2 ∧ Rep K C.r G2 d (.ref p) := by
  obtain ⟨o, ho, hob, hg, h0, hr, _, _⟩ := ow.obj
  have nx : ∀ (i : Nat) e, l[i]? = some (.own e) → σ[i]? ≠ some (some (.ref p)) := fun i e hi hz => by
    obtain ⟨v, e1, u, e2, q, e3, a1, a2, a3, a4⟩ := S0.sl i _ hi
    subst e2 e3
    rw [hz] at e1
    cases e1
    cases e with
    | lst ds => obtain ⟨vs, b, _⟩ := a4; rw [f] at b; cases b
    | dic ks ds => obtain ⟨kvs, vs, b, _⟩ := a4; rw [f] at b; cases b
    | _ => exact a4.elim
  have m : Same G' (upd G' p o) := fun a u e => by rw [upd_ne (ne_of_none e hg)]; exact e
  have nt : nTb o := ow.nt ho
  refine ⟨_, S'.freeze ho nt hg h0 hr nx, ⟨s.h, s.g.trans m, fun a u e => ?_, fun a u e => ?_, s.t, s.tb⟩, hob.rep hg hd⟩
  · by_cases ha : a = p
    · subst ha; rw [upd_same] at e; cases e; exact .inr ⟨f, nt⟩
    · rw [upd_ne ha] at e; exact s.n a u e
  · by_cases ha : a = p
    · subst ha; rw [upd_same] at e; rw [ho]; exact e
    · rw [upd_ne ha] at e; exact s.s a u e
theorem de_of {e : Expr} {g : EM D} (h : DO X W e g) : DE X W e g := by
  refine pe_imp (pe_mayLock h) fun σ H Q hq => ?_
  obtain ⟨C, l, rw, G, S, hp⟩ := hq
  refine ⟨C, l, rw, G, S, ?_⟩
  cases e1 : g l rw with
  | exc x w => rw [e1] at hp; exact hp
  | stuck => rw [e1] at hp; exact hp
  | ok p =>
    obtain ⟨d, rw'⟩ := p
    rw [e1] at hp
    intro p H' G' S' s f ow
    by_cases hd : isDic d = false
    · obtain ⟨G2, S2, g2, r2⟩ := redFrzL hd S S' s f ow
      exact .inl (hp (.ref p) H' G2 S2 g2 r2)
    · have hd : isDic d = true := by
        cases q : isDic d with
        | true => rfl
        | false => exact absurd q hd
      obtain ⟨o, ho, hob, hg, h0, hr, _, _⟩ := ow.obj
      have nx : ∀ (i : Nat) e, l[i]? = some (.own e) → σ[i]? ≠ some (some (.ref p)) := fun i e hi hz => by
        obtain ⟨v, e1, u, e2, q, e3, a1, a2, a3, a4⟩ := S.sl i _ hi
        subst e2 e3
        rw [hz] at e1
        cases e1
        cases e with
        | lst ds => obtain ⟨vs, b, _⟩ := a4; rw [f] at b; cases b
        | dic ks ds => obtain ⟨kvs, vs, b, _⟩ := a4; rw [f] at b; cases b
        | _ => exact a4.elim
      cases d with
      | dic ks ds =>
        obtain ⟨kvs, vs, eo, _⟩ := id hob
        subst eo
        exact .inr ⟨p, _, rfl, ho, trivial, fun od => hp (.ref p) _ _ (S'.lock ho hg h0 hr nx nTE_dK) (Gr.lock s f ho hg nTE_dK) (hob.repK hg)⟩
      | _ => cases hd

/-! ### a built-in called -/
theorem redA {r : List V → Hp → VK → Prop} {f : List D → Option D} {g : EM (List D)} (h : ArD X.K r f) : ∀ σ H Q, tD X.K W (eArgs f g) σ H Q → tCB r (tA X.K W g) σ H Q := by
  intro σ H Q hq
  obtain ⟨C, l, rw, G, S, hp⟩ := hq
  refine seqA (P := PEq X.K W C l σ H G Q) S hp (fun _ _ z => z) (fun z => z) fun ds rw1 vs H1 G1 S1 s1 r1 h1 => ?_
  dsimp only [PEq] at h1
  cases e3 : f ds with
  | none => rw [e3] at h1; exact h1.elim
  | some d =>
    rw [e3] at h1
    exact h C.r G1 H1 ds vs d Q S1.sub r1 e3 fun v H' G' sh g r => h1 v H' G' (S1.grow0 sh g) (s1.trans g) r
theorem redN {r : List V → Hp → VK → Prop} {f : List D → Option D} {g : EM (List D)} (h : ArN X.K r f) : ∀ σ H Q, tO X.K W (eArgs f g) σ H Q → tCB r (tA X.K W g) σ H Q := by
  intro σ H Q hq
  obtain ⟨C, l, rw, G, S, hp⟩ := hq
  refine seqA (P := POq X.K W C l σ H G Q) S hp (fun _ _ z => z) (fun z => z) fun ds rw1 vs H1 G1 S1 s1 r1 h1 => ?_
  dsimp only [POq] at h1
  cases e3 : f ds with
  | none => rw [e3] at h1; exact h1.elim
  | some d =>
    rw [e3] at h1
    obtain ⟨hd, k⟩ := h C.r G1 H1 ds vs d Q S1.sub r1 e3
    refine k fun p H2 ob sh hp' hob => ?_
    have g2 : Gr X.K C.r H1 G1 H2 G1 := Gr.same S1.sub sh
    have S2 := S1.grow0 sh g2
    refine h1 p _ _ (S2.newO hp') ((s1.trans g2).trans (Gr.newO S2.sub hp')) ?_ (S2.ownNew hp' hob hd)
    cases e : H p with
    | none => rfl
    | some o => obtain ⟨o', z⟩ := (s1.trans g2).t _ _ e; rw [hp'] at z; cases z
section
variable {x : Str} {p pos : Pos} {e : Expr} {es : List Expr} {id T : String} {r : List V → Hp → VK → Prop} {f : List D → Option D} {g : EM (List D)}
theorem de_bi (hc : CallR X (.builtin id) r) (h : ArD X.K r f) (hg : Gl X x) (hm : X.mg x = none) (hv : bootBuiltins x = some (.builtin id)) (ha : DA X W (e :: es) g)
    (hn : x ≠ "__name__" := by decide) (hdb : (x == ("__debug__" : Str)) = false := by decide) (he : starEach (e :: es) X.env = (false, eval e X.env) :: starEach es X.env := by rfl) (hpl : (backTo pos (starEach es X.env)).any (·.1) = false := by rfl) :
    DE X W (.Call (.Name x p) (e :: es) [] pos) (eArgs f g) := pe_imp (pe_callB hc hg hm hv ha hn hdb he hpl) (redA h)
theorem de_bt (hc : CallR X (.type T) r) (h : ArD X.K r f) (hg : Gl X x) (hm : X.mg x = none) (hv : bootBuiltins x = some (.type T)) (ha : DA X W (e :: es) g)
    (hn : x ≠ "__name__" := by decide) (hdb : (x == ("__debug__" : Str)) = false := by decide) (he : starEach (e :: es) X.env = (false, eval e X.env) :: starEach es X.env := by rfl) (hpl : (backTo pos (starEach es X.env)).any (·.1) = false := by rfl) :
    DE X W (.Call (.Name x p) (e :: es) [] pos) (eArgs f g) := pe_imp (pe_callTy hc hg hm hv ha hn hdb he hpl) (redA h)
theorem do_bi (hc : CallR X (.builtin id) r) (h : ArN X.K r f) (hg : Gl X x) (hm : X.mg x = none) (hv : bootBuiltins x = some (.builtin id)) (ha : DA X W (e :: es) g)
    (hn : x ≠ "__name__" := by decide) (hdb : (x == ("__debug__" : Str)) = false := by decide) (he : starEach (e :: es) X.env = (false, eval e X.env) :: starEach es X.env := by rfl) (hpl : (backTo pos (starEach es X.env)).any (·.1) = false := by rfl) :
    DO X W (.Call (.Name x p) (e :: es) [] pos) (eArgs f g) := pe_imp (pe_callB hc hg hm hv ha hn hdb he hpl) (redN h)
theorem do_bt (hc : CallR X (.type T) r) (h : ArN X.K r f) (hg : Gl X x) (hm : X.mg x = none) (hv : bootBuiltins x = some (.type T)) (ha : DA X W (e :: es) g)
    (hn : x ≠ "__name__" := by decide) (hdb : (x == ("__debug__" : Str)) = false := by decide) (he : starEach (e :: es) X.env = (false, eval e X.env) :: starEach es X.env := by rfl) (hpl : (backTo pos (starEach es X.env)).any (·.1) = false := by rfl) :
    DO X W (.Call (.Name x p) (e :: es) [] pos) (eArgs f g) := pe_imp (pe_callTy hc hg hm hv ha hn hdb he hpl) (redN h)
end

/-! ### tests -/
theorem redB {g : EM D} : ∀ σ H Q, tT X.K W (toB g) σ H Q → tB (tD X.K W g) σ H Q := by
  intro σ H Q hq
  obtain ⟨C, l, rw, G, S, hp⟩ := hq
  refine seqD (P := PTq X.K W C l σ H G Q) S hp (fun _ _ z => z) (fun z => z) fun d rw1 v H1 G1 S1 s1 r1 h1 => ?_
  cases d with
  | bl b =>
    unfold Rep at r1
    exact ⟨b, r1, h1 H1 G1 S1 s1⟩
  | _ => exact h1.elim
theorem dt_of {e : Expr} {g : EM D} (h : DE X W e g) (he : ∀ whole, isTrue e X.env whole = (do let v ← whole; standAt e.pos; holding [v] (truthy v)) := by intro _; rfl) : DT X W e (toB g) := pt_imp (pt_val h he) redB
theorem dt_op {op : CmpOp} {r : R2} {f : D → D → Option D} {a b : Expr} {ga gb : EM D} {pos : Pos} (ho : OpR X (compareOp op) r) (h : OpD X.K r f) (ha : DE X W a ga) (hb : DE X W b gb) (hm : behindInMarks op b = false) : DT X W (.Compare a [op] [b] pos) (toB (eBin f ga gb)) := by
  refine pt_imp (pt_cmpR ho ha hb hm) fun σ H Q hq => ?_
  have h1 := redB σ H Q hq
  exact red2 h σ H _ h1
theorem dt_pc {op : CmpOp} {a b : Expr} {g : EM D} {t : TE} {pos : Pos} (h : PC X op a b t) (i : ∀ σ H Q, tD X.K W g σ H Q → t σ H Q) (h1 : behindInMarks op b = false := by first | exact nobehind _ (by decide) (by decide) | rfl) : DT X W (.Compare a [op] [b] pos) (toB g) := by
  refine pt_imp (pt_cmp h h1) fun σ H Q hq => ?_
  exact i _ _ _ (redB σ H Q hq)
theorem redC {r r' : R2} {f f' : D → D → Option D} {ga gb gc : EM D} (hf : CmpD X.K r f) (hf' : OpD X.K r' f') : ∀ σ H Q, tD X.K W (eChain f f' ga gb gc) σ H Q → tChain r r' (tD X.K W ga) (tD X.K W gb) (tD X.K W gc) σ H Q := by
  intro σ H Q hq
  obtain ⟨C, l, rw, G, S, hp⟩ := hq
  refine seqD (P := PEq X.K W C l σ H G Q) S hp (fun _ _ z => z) (fun z => z) fun d1 rw1 v1 H1 G1 S1 s1 r1 h1 => ?_
  refine seqD (P := PEq X.K W C l σ H G Q) S1 h1 (fun _ _ z => z) (fun z => z) fun d2 rw2 v2 H2 G2 S2 s2 r2 h2 => ?_
  dsimp only [PEq] at h2
  cases e : f d1 d2 with
  | none => rw [e] at h2; exact h2.elim
  | some d =>
    rw [e] at h2
    refine hf C.r G2 H2 d1 d2 v1 v2 d _ S2.sub (r1.mono s2.g) r2 e fun v rv => ?_
    cases d with
    | bl k =>
      unfold Rep at rv
      refine ⟨k, rv, ?_⟩
      cases k with
      | false => exact iteF (h2 (.bl false) H2 G2 S2 (s1.trans s2) (by unfold Rep; rfl))
      | true =>
        dsimp only at h2
        refine iteT ?_
        refine seqD (P := PEq X.K W C l σ H G Q) S2 h2 (fun _ _ z => z) (fun z => z) fun d3 rw3 v3 H3 G3 S3 s3 r3 h3 => ?_
        dsimp only [PEq] at h3
        cases e3 : f' d2 d3 with
        | none => rw [e3] at h3; exact h3.elim
        | some d =>
          rw [e3] at h3
          exact hf' C.r G3 H3 d2 d3 v2 v3 d Q S3.sub (r2.mono s3.g) r3 e3 fun v H' G' sh g r => h3 v H' G' (S3.grow0 sh g) (((s1.trans s2).trans s3).trans g) r
    | _ => exact h2.elim
theorem de_chain {op op' : CmpOp} {r r' : R2} {f f' : D → D → Option D} {a b c : Expr} {ga gb gc : EM D} {pos : Pos} (ho : OpR X (compareOp op) r) (ho' : OpR X (compareOp op') r') (hf : CmpD X.K r f) (hf' : OpD X.K r' f') (ha : DE X W a ga) (hb : DE X W b gb) (hc : DE X W c gc)
    (hm : lastMarks [op, op'] [b, c] = false := by with_unfolding_all rfl) : DE X W (.Compare a [op, op'] [b, c] pos) (eChain f f' ga gb gc) := pe_imp (pe_chain ho ho' ha hb hc hm) (redC hf hf')
theorem dt_chain {op op' : CmpOp} {r r' : R2} {f f' : D → D → Option D} {a b c : Expr} {ga gb gc : EM D} {pos : Pos} (ho : OpR X (compareOp op) r) (ho' : OpR X (compareOp op') r') (hf : CmpD X.K r f) (hf' : OpD X.K r' f') (ha : DE X W a ga) (hb : DE X W b gb) (hc : DE X W c gc)
    (hm : lastMarks [op, op'] [b, c] = false := by with_unfolding_all rfl) : DT X W (.Compare a [op, op'] [b, c] pos) (toB (eChain f f' ga gb gc)) := pt_imp (pt_chain ho ho' ha hb hc hm) fun σ H Q hq => redC hf hf' σ H _ (redB σ H Q hq)
/-! ### and, or, not, if -/
abbrev DW (X : Cx) (W : WD) (e : Expr) (g : EM Bool) : Prop := PW X e (tT X.K W g)
theorem dw_and1 {a : Expr} {pos : Pos} {g : EM Bool} (h : DT X W a g) : DW X W (.BoolOp .And [a] pos) g := pw_and1 h
theorem dw_or1 {a : Expr} {pos : Pos} {g : EM Bool} (h : DT X W a g) : DW X W (.BoolOp .Or [a] pos) g := pw_or1 h
theorem dw_and {a b : Expr} {rest : List Expr} {pos : Pos} {ga gb : EM Bool} (ha : DT X W a ga) (hb : DW X W (.BoolOp .And (b :: rest) pos) gb) : DW X W (.BoolOp .And (a :: b :: rest) pos) (tAnd' ga gb) := by
  refine pw_imp (pw_and ha hb) fun σ H Q hq => ?_
  obtain ⟨C, l, rw, G, S, hp⟩ := hq
  refine seqT (P := PTq X.K W C l σ H G Q) S hp (fun _ _ z => z) (fun z => z) fun b rw1 H1 G1 S1 s1 h1 => ?_
  cases b with
  | true => exact iteT ⟨C, l, rw1, G1, S1, TPost.later s1 h1⟩
  | false => exact iteF (h1 H1 G1 S1 s1)
theorem dw_or {a b : Expr} {rest : List Expr} {pos : Pos} {ga gb : EM Bool} (ha : DT X W a ga) (hb : DW X W (.BoolOp .Or (b :: rest) pos) gb) : DW X W (.BoolOp .Or (a :: b :: rest) pos) (tOr' ga gb) := by
  refine pw_imp (pw_or ha hb) fun σ H Q hq => ?_
  obtain ⟨C, l, rw, G, S, hp⟩ := hq
  refine seqT (P := PTq X.K W C l σ H G Q) S hp (fun _ _ z => z) (fun z => z) fun b rw1 H1 G1 S1 s1 h1 => ?_
  cases b with
  | true => exact iteT (h1 H1 G1 S1 s1)
  | false => exact iteF ⟨C, l, rw1, G1, S1, TPost.later s1 h1⟩
theorem dt_not {a : Expr} {pos : Pos} {g : EM Bool} (h : DT X W a g) : DT X W (.UnaryOp .Not a pos) (tNot' g) := by
  refine pt_imp (pt_not h) fun σ H Q hq => ?_
  obtain ⟨C, l, rw, G, S, hp⟩ := hq
  exact seqT (P := PTq X.K W C l σ H G Q) S hp (fun _ _ z => z) (fun z => z) fun b rw1 H1 G1 S1 s1 h1 => h1 H1 G1 S1 s1
theorem de_one {op : BoolOp} {a : Expr} {pos : Pos} {g : EM D} (h : DE X W a g) : DE X W (.BoolOp op [a] pos) g := pe_one h
theorem de_and {a b : Expr} {rest : List Expr} {pos : Pos} {ga gb : EM D} (ha : DE X W a ga) (hb : DE X W (.BoolOp .And (b :: rest) pos) gb) : DE X W (.BoolOp .And (a :: b :: rest) pos) (vAnd ga gb) := by
  refine pe_imp (pe_and ha hb) fun σ H Q hq => ?_
  obtain ⟨C, l, rw, G, S, hp⟩ := hq
  refine seqD (P := PEq X.K W C l σ H G Q) S hp (fun _ _ z => z) (fun z => z) fun d rw1 v H1 G1 S1 s1 r1 h1 => ?_
  cases d with
  | bl b =>
    unfold Rep at r1
    refine ⟨b, r1, ?_⟩
    cases b with
    | true => exact iteT ⟨C, l, rw1, G1, S1, EPost.later s1 h1⟩
    | false => exact iteF (h1 (.bl false) H1 G1 S1 s1 (by unfold Rep; rfl))
  | _ => exact h1.elim
theorem de_or {a b : Expr} {rest : List Expr} {pos : Pos} {ga gb : EM D} (ha : DE X W a ga) (hb : DE X W (.BoolOp .Or (b :: rest) pos) gb) : DE X W (.BoolOp .Or (a :: b :: rest) pos) (vOr ga gb) := by
  refine pe_imp (pe_or ha hb) fun σ H Q hq => ?_
  obtain ⟨C, l, rw, G, S, hp⟩ := hq
  refine seqD (P := PEq X.K W C l σ H G Q) S hp (fun _ _ z => z) (fun z => z) fun d rw1 v H1 G1 S1 s1 r1 h1 => ?_
  cases d with
  | bl b =>
    unfold Rep at r1
    refine ⟨b, r1, ?_⟩
    cases b with
    | true => exact iteT (h1 (.bl true) H1 G1 S1 s1 (by unfold Rep; rfl))
    | false => exact iteF ⟨C, l, rw1, G1, S1, EPost.later s1 h1⟩
  | _ => exact h1.elim
theorem de_not {a : Expr} {pos : Pos} {g : EM D} (h : DE X W a g) : DE X W (.UnaryOp .Not a pos) (vNot g) := by
  refine pe_imp (pe_not h) fun σ H Q hq => ?_
  obtain ⟨C, l, rw, G, S, hp⟩ := hq
  refine seqD (P := PEq X.K W C l σ H G Q) S hp (fun _ _ z => z) (fun z => z) fun d rw1 v H1 G1 S1 s1 r1 h1 => ?_
  cases d with
  | bl b =>
    unfold Rep at r1
    exact ⟨b, r1, h1 (.bl (!b)) H1 G1 S1 s1 (by unfold Rep; rfl)⟩
  | _ => exact h1.elim
theorem de_if {c a b : Expr} {pos : Pos} {gc : EM Bool} {ga gb : EM D} (hc : DT X W c gc) (ha : DE X W a ga) (hb : DE X W b gb) : DE X W (.IfExp c a b pos) (eIf gc ga gb) := by
  refine pe_imp (pe_ifExp hc ha hb) fun σ H Q hq => ?_
  obtain ⟨C, l, rw, G, S, hp⟩ := hq
  refine seqT (P := PEq X.K W C l σ H G Q) S hp (fun _ _ z => z) (fun z => z) fun b rw1 H1 G1 S1 s1 h1 => ?_
  cases b with
  | true => exact iteT ⟨C, l, rw1, G1, S1, EPost.later s1 h1⟩
  | false => exact iteF ⟨C, l, rw1, G1, S1, EPost.later s1 h1⟩
/-! ### is None -/
theorem Rep.isNon {K : PySem.W.Frag} {o : Option Addr} {G : Hp} {d : D} {v : V} {e : D} (r : Rep K o G d v) (h : isNonD d = some e) : e = .bl (decide (v = .non)) := by
  cases d <;> unfold isNonD at h <;> unfold Rep at r
  case raw => cases h
  case non => subst r; cases h; rfl
  case row => obtain ⟨a, _, rfl⟩ := r; cases h; rfl
  case tup => obtain ⟨a, _, rfl, _⟩ := r; cases h; rfl
  case lst => obtain ⟨a, _, rfl, _⟩ := r; cases h; rfl
  case dic => obtain ⟨a, _, _, _, rfl, _⟩ := r; cases h; rfl
  case scr => obtain ⟨a, rfl, _⟩ := r; cases h; rfl
  all_goals (subst r; cases h; rfl)
theorem notNon_is {d e : D} (h : notNonD d = some e) : ∃ b, isNonD d = some (.bl b) ∧ e = .bl (!b) := by
  cases d <;> unfold notNonD at h <;> unfold isNonD <;> (try cases h) <;> exact ⟨_, rfl, rfl⟩
theorem redIsN {g : EM D} : ∀ σ H Q, tD X.K W (eUn isNonD g) σ H Q → tIsN (tD X.K W g) σ H Q := by
  intro σ H Q hq
  obtain ⟨C, l, rw, G, S, hp⟩ := hq
  refine seqD (P := PEq X.K W C l σ H G Q) S hp (fun _ _ z => z) (fun z => z) fun d rw1 v H1 G1 S1 s1 r1 h1 => ?_
  dsimp only [PEq] at h1
  cases e : isNonD d with
  | none => rw [e] at h1; exact h1.elim
  | some b =>
    rw [e] at h1
    have z := r1.isNon e
    subst z
    exact h1 _ H1 G1 S1 s1 (by unfold Rep; rfl)
theorem redNotN {g : EM D} : ∀ σ H Q, tD X.K W (eUn notNonD g) σ H Q → tNotN (tD X.K W g) σ H Q := by
  intro σ H Q hq
  obtain ⟨C, l, rw, G, S, hp⟩ := hq
  refine seqD (P := PEq X.K W C l σ H G Q) S hp (fun _ _ z => z) (fun z => z) fun d rw1 v H1 G1 S1 s1 r1 h1 => ?_
  dsimp only [PEq] at h1
  cases e : notNonD d with
  | none => rw [e] at h1; exact h1.elim
  | some b =>
    rw [e] at h1
    obtain ⟨k, e1, e2⟩ := notNon_is e
    have z := r1.isNon e1
    injection z with z
    rw [e2, z] at h1
    exact h1 _ H1 G1 S1 s1 (by unfold Rep; rfl)
theorem de_isN {a : Expr} {j : Nat} {pos pos' : Pos} {g : EM D} (h : DE X W a g) : DE X W (.Compare a [.Is] [.Constant .none j pos'] pos) (eUn isNonD g) := pe_imp (pe_cmp (pc_isN h)) redIsN
theorem de_notN {a : Expr} {j : Nat} {pos pos' : Pos} {g : EM D} (h : DE X W a g) : DE X W (.Compare a [.IsNot] [.Constant .none j pos'] pos) (eUn notNonD g) := pe_imp (pe_cmp (pc_notN h)) redNotN
theorem dt_isN {a : Expr} {j : Nat} {pos pos' : Pos} {g : EM D} (h : DE X W a g) : DT X W (.Compare a [.Is] [.Constant .none j pos'] pos) (toB (eUn isNonD g)) := dt_pc (pc_isN h) redIsN
theorem dt_notN {a : Expr} {j : Nat} {pos pos' : Pos} {g : EM D} (h : DE X W a g) : DT X W (.Compare a [.IsNot] [.Constant .none j pos'] pos) (toB (eUn notNonD g)) := dt_pc (pc_notN h) redNotN
end
end HD
end
section
/-! Rules of the data layer: statements, defs, calls. -/
namespace HD
open PySem PySem.Spec L2
open PyProof.Rows hiding St

def sNext : SM := fun l rw => .ok (.next, l, rw)
def sBrk : SM := fun l rw => .ok (.brk, l, rw)
def sCont : SM := fun l rw => .ok (.cont, l, rw)
def sSeq (f g : SM) : SM := fun l rw => (f l rw).bind fun p => match p.1 with
  | .next => g p.2.1 p.2.2
  | x => .ok (x, p.2)
def sSet (i : Nat) (g : EM D) : SM := fun l rw => (g l rw).bind fun p => .ok (.next, l.set i (.val p.1), p.2)
def sSetO (i : Nat) (g : EM D) : SM := fun l rw => (g l rw).bind fun p => .ok (.next, l.set i (.own p.1), p.2)
def sExpr (g : EM D) : SM := fun l rw => (g l rw).bind fun p => .ok (.next, l, p.2)
def sRet (g : EM D) : SM := fun l rw => (g l rw).bind fun p => .ok (.ret p.1, l, p.2)
def sRetN : SM := fun l rw => .ok (.ret .non, l, rw)
/-- return of a name that holds an own thing -/
def sRetV (i : Nat) : SM := fun l rw => match l[i]? with
  | some (.own d) => .ok (.ret d, l, rw)
  | _ => .stuck
def sIf (c : EM Bool) (a b : SM) : SM := fun l rw => (c l rw).bind fun p => if p.1 = true then a l p.2 else b l p.2
/-- an own thing is shown from now on -/
def sFrz (i : Nat) : SM := fun l rw => match l[i]? with
  | some (.own d) => .ok (.next, l.set i (.val d), rw)
  | _ => .stuck
def sLoop (tg : D → Dl → Option Dl) (body : SM) : List D → SM
  | [], l, rw => .ok (.next, l, rw)
  | d :: ds, l, rw => match tg d l with
    | none => .stuck
    | some l1 => (body l1 rw).bind fun p => match p.1 with
      | .next => sLoop tg body ds p.2.1 p.2.2
      | .cont => sLoop tg body ds p.2.1 p.2.2
      | .brk => .ok (.next, p.2)
      | .ret d => .ok (.ret d, p.2)
def sFor (g : EM (List D)) (tg : D → Dl → Option Dl) (body : SM) : SM := fun l rw => (g l rw).bind fun p => sLoop tg body p.1 l p.2
def sWhile (c : EM Bool) (body : SM) : Nat → SM
  | 0, _, _ => .stuck
  | n + 1, l, rw => (c l rw).bind fun p => if p.1 = true then (body l p.2).bind fun q => match q.1 with
      | .next => sWhile c body n q.2.1 q.2.2
      | .cont => sWhile c body n q.2.1 q.2.2
      | .brk => .ok (.next, q.2)
      | .ret d => .ok (.ret d, q.2)
    else .ok (.next, l, p.2)

section
variable {K : PySem.W.Frag} {W : WD} {C : C0} {l : Dl} {rw : Rw} {σ : St} {H G H' G' : Hp} {d : D} {o : HO} {p : Addr} {v : V} {i : Nat}
theorem SR.setV (S : SR K C l rw σ H G) (r : Rep K C.r G d v) : SR K C (l.set i (.val d)) rw (σ.set i (some v)) H G := by
  refine ⟨S.sub, S.fr, S.ft, S.tabs, S.g0, S.gn, S.gt, by simp [S.len], fun j x e => ?_, fun j k d' e' q hjk hj hk h1 h2 => ?_, S.row⟩
  · by_cases h : i = j
    · subst h
      have hi : i < l.length := by
        have := (List.getElem?_eq_some_iff.mp e).1
        simpa using this
      rw [List.getElem?_set_self hi] at e
      cases e
      exact ⟨some v, by rw [List.getElem?_set_self (by rw [S.len]; exact hi)], v, rfl, r⟩
    · rw [List.getElem?_set_ne h] at e
      obtain ⟨u, e1, e2⟩ := S.sl j x e
      exact ⟨u, by rw [List.getElem?_set_ne h]; exact e1, e2⟩
  · have n1 : i ≠ j := fun z => by
      subst z
      have hi : i < l.length := by have := (List.getElem?_eq_some_iff.mp hj).1; simpa using this
      rw [List.getElem?_set_self hi] at hj; cases hj
    have n2 : i ≠ k := fun z => by
      subst z
      have hi : i < l.length := by have := (List.getElem?_eq_some_iff.mp hk).1; simpa using this
      rw [List.getElem?_set_self hi] at hk; cases hk
    rw [List.getElem?_set_ne n1] at hj h1
    rw [List.getElem?_set_ne n2] at hk h2
    exact S.ow j k d' e' q hjk hj hk h1 h2
theorem SR.setO (S : SR K C l rw σ H G) (r : Own K C H G d v) (ne : ∀ (j : Nat) e, j ≠ i → l[j]? = some (.own e) → σ[j]? ≠ some (some v)) : SR K C (l.set i (.own d)) rw (σ.set i (some v)) H G := by
  have hv : ∃ p, v = .ref p := let ⟨p, h, _⟩ := r; ⟨p, h⟩
  refine ⟨S.sub, S.fr, S.ft, S.tabs, S.g0, S.gn, S.gt, by simp [S.len], fun j x e => ?_, fun j k d' e' q hjk hj hk h1 h2 => ?_, S.row⟩
  · by_cases h : i = j
    · subst h
      have hi : i < l.length := by
        have := (List.getElem?_eq_some_iff.mp e).1
        simpa using this
      rw [List.getElem?_set_self hi] at e
      cases e
      exact ⟨some v, by rw [List.getElem?_set_self (by rw [S.len]; exact hi)], v, rfl, r⟩
    · rw [List.getElem?_set_ne h] at e
      obtain ⟨u, e1, e2⟩ := S.sl j x e
      exact ⟨u, by rw [List.getElem?_set_ne h]; exact e1, e2⟩
  · by_cases n1 : i = j
    · subst n1
      have hi : i < σ.length := by have := (List.getElem?_eq_some_iff.mp h1).1; simpa using this
      rw [List.getElem?_set_self hi] at h1
      cases h1
      rw [List.getElem?_set_ne hjk] at hk h2
      exact ne k e' (Ne.symm hjk) hk h2
    · rw [List.getElem?_set_ne n1] at hj h1
      by_cases n2 : i = k
      · subst n2
        have hi : i < σ.length := by have := (List.getElem?_eq_some_iff.mp h2).1; simpa using this
        rw [List.getElem?_set_self hi] at h2
        cases h2
        exact ne j d' hjk hj h1
      · rw [List.getElem?_set_ne n2] at hk h2
        exact S.ow j k d' e' q hjk hj hk h1 h2
theorem Own.nTb {K : PySem.W.Frag} {C : C0} {H G : Hp} {d : D} {p : Addr} {o : HO} (h : Own K C H G d (.ref p)) {ho : H p = some o} : ¬ TbX o := by
  obtain ⟨q, e, h1, h2, h3, h4⟩ := h
  cases e
  cases d with
  | lst ds => obtain ⟨vs, a1, _⟩ := h4; rw [ho] at a1; cases a1; exact nTE_lst
  | dic ks ds => obtain ⟨kvs, vs, a1, _⟩ := h4; rw [ho] at a1; cases a1; exact nTE_dK
  | _ => exact h4.elim
theorem SR.ownAt (S : SR K C l rw σ H G) (e : l[i]? = some (.own d)) : ∃ p, σ[i]? = some (some (.ref p)) ∧ Own K C H G d (.ref p) := by
  obtain ⟨v, e1, u, e2, q⟩ := S.sl i _ e
  subst e2
  obtain ⟨p, e3, _⟩ := id q
  subst e3
  exact ⟨p, e1, q⟩
/-- an own thing that stands in the heap ahead is no new one -/
theorem SR.ownNe (S : SR K C l rw σ H G) (hp : H p = none) : ∀ (j : Nat) e, l[j]? = some (.own e) → σ[j]? ≠ some (some (.ref p)) := fun j e hj hz => by
  obtain ⟨q, e1, ow⟩ := S.ownAt hj
  rw [hz] at e1; cases e1
  obtain ⟨o, ho, _⟩ := ow.obj
  rw [hp] at ho; cases ho
theorem SR.up (S : SR K C l rw σ H G) : SR K ⟨C.r, C.H0, G⟩ l rw σ H G := ⟨S.sub, S.fr, S.ft, S.tabs, Same.refl _, fun a o e => .inl e, S.gt, S.len, S.sl, S.ow, S.row⟩
theorem SR.down {G1 : Hp} (g0 : Same C.G0 G1) (gn : ∀ a o, G1 a = some o → C.G0 a = some o ∨ C.H0 a = none) (S : SR K ⟨C.r, C.H0, G1⟩ l rw σ H G) : SR K C l rw σ H G :=
  ⟨S.sub, S.fr, S.ft, S.tabs, g0.trans S.g0, fun a o e => (S.gn a o e).elim (fun z => gn a o z) .inr, S.gt, S.len, S.sl, S.ow, S.row⟩
/-- an own thing is changed -/
theorem SR.mut {o' : HO} (S : SR K C l rw σ H G) (ho : H p = some o) (nt : ¬ TbX o) (hg : G p = none) (h0 : C.H0 p = none) (hr : C.r ≠ some p) (nx : ∀ (j : Nat) e, l[j]? = some (.own e) → σ[j]? ≠ some (some (.ref p))) : SR K C l rw σ (upd H p o') G := by
  refine ⟨fun a u e => ?_, fun a u e ne nt => ?_, fun a u e => ?_, (TabR.put fun u e => by rw [ho] at e; cases e; exact nt) S.tabs, S.g0, S.gn, S.gt, S.len, fun j x e => ?_, S.ow, ?_⟩
  · rw [upd_ne (ne_of_none e hg)]; exact S.sub a u e
  · rw [upd_ne (ne_of_none e h0)]; exact S.fr a u e ne nt
  · rw [upd_ne (ne_of_none e h0)]; exact S.ft a u e
  · obtain ⟨v, e1, e2⟩ := S.sl j x e
    refine ⟨v, e1, ?_⟩
    cases x with
    | no => trivial
    | val d => exact e2
    | own d =>
      obtain ⟨u, e3, q, a1, a2, a3, a4, a5⟩ := e2
      subst e3 a1
      have ne : q ≠ p := fun z => nx j d e (by rw [e1, z])
      refine ⟨_, rfl, q, rfl, a2, a3, a4, ?_⟩
      cases d with
      | lst ds => obtain ⟨vs, b1, b2, b3⟩ := a5; exact ⟨vs, by rw [upd_ne ne]; exact b1, b2, b3⟩
      | dic ks ds => obtain ⟨kvs, vs, b1, b2, b3, b4, b5⟩ := a5; exact ⟨kvs, vs, by rw [upd_ne ne]; exact b1, b2, b3, b4, b5⟩
      | _ => exact a5.elim
  · have w := S.row
    unfold RowOk at w ⊢
    cases e : C.r with
    | none => rw [e] at w; cases rw <;> exact w
    | some a =>
      rw [e] at w
      cases rw with
      | none => exact w
      | some x =>
        obtain ⟨w1, v, w2, w3⟩ := w
        have ne : a ≠ p := fun z => hr (by rw [e, z])
        exact ⟨w1, v, by rw [upd_ne ne]; exact w2, w3⟩
/-- a slot forgotten -/
theorem SR.forget (S : SR K C l rw σ H G) : SR K C (l.set i .no) rw σ H G := by
  refine ⟨S.sub, S.fr, S.ft, S.tabs, S.g0, S.gn, S.gt, by simp [S.len], fun j x e => ?_, fun j k d' e' q hjk hj hk h1 h2 => ?_, S.row⟩
  · by_cases h : i = j
    · subst h
      have hi : i < l.length := by have := (List.getElem?_eq_some_iff.mp e).1; simpa using this
      rw [List.getElem?_set_self hi] at e
      cases e
      exact ⟨σ[i]'(by rw [S.len]; exact hi), List.getElem?_eq_getElem _, trivial⟩
    · rw [List.getElem?_set_ne h] at e
      exact S.sl j x e
  · have n1 : i ≠ j := fun z => by
      subst z
      have hi : i < l.length := by have := (List.getElem?_eq_some_iff.mp hj).1; simpa using this
      rw [List.getElem?_set_self hi] at hj; cases hj
    have n2 : i ≠ k := fun z => by
      subst z
      have hi : i < l.length := by have := (List.getElem?_eq_some_iff.mp hk).1; simpa using this
      rw [List.getElem?_set_self hi] at hk; cases hk
    rw [List.getElem?_set_ne n1] at hj
    rw [List.getElem?_set_ne n2] at hk
    exact S.ow j k d' e' q hjk hj hk h1 h2
/-- an own slot mutated in place -/
theorem SR.mutAt {d' : D} {o' : HO} (S : SR K C l rw σ H G) (e : l[i]? = some (.own d)) (hp : σ[i]? = some (some (.ref p))) (hd : isLD d' = true) (hob : ObjD K C.r G d' o') : SR K C (l.set i (.own d')) rw σ (upd H p o') G := by
  obtain ⟨q, e1, ow⟩ := S.ownAt e
  rw [hp] at e1; cases e1
  obtain ⟨o, ho, hob0, hg, h0, hr, _, _⟩ := ow.obj
  have S1 : SR K C (l.set i .no) rw σ H G := S.forget
  have nx : ∀ (j : Nat) e, (l.set i .no)[j]? = some (.own e) → σ[j]? ≠ some (some (.ref p)) := fun j e' hj hz => by
    by_cases h : i = j
    · subst h
      have hi : i < l.length := by have := (List.getElem?_eq_some_iff.mp hj).1; simpa using this
      rw [List.getElem?_set_self hi] at hj; cases hj
    · rw [List.getElem?_set_ne h] at hj
      exact S.ow i j d e' p h e hj hp hz
  have S2 : SR K C (l.set i .no) rw σ (upd H p o') G := S1.mut ho (ow.nTb (ho := ho)) hg h0 hr nx
  have ow' : Own K C (upd H p o') G d' (.ref p) := by
    refine ⟨p, rfl, hg, h0, hr, ?_⟩
    cases d' with
    | lst ds => obtain ⟨vs, rfl, h1, h2⟩ := hob; exact ⟨vs, upd_same, h1, h2⟩
    | dic ks ds => obtain ⟨kvs, vs, rfl, h1, h2, h3, h4⟩ := hob; exact ⟨kvs, vs, upd_same, h1, h2, h3, h4⟩
    | _ => cases hd
  have S3 := S2.setO (i := i) ow' fun j e' hji hj => nx j e' hj
  rw [List.set_set] at S3
  have hi : i < σ.length := (List.getElem?_eq_some_iff.mp hp).1
  have es : σ.set i (some (.ref p)) = σ := by
    refine List.ext_getElem? fun j => ?_
    by_cases h : i = j
    · subst h; rw [List.getElem?_set_self hi, hp]
    · rw [List.getElem?_set_ne h]
  rw [es] at S3
  exact S3
end

section
variable {X : Cx} {W : WD} {own : Bool}
/-! ### blocks -/
theorem dss_nil : DSs X W own [] sNext := pss_imp pss_nil fun E σ H ⟨C, l, rw, G, S, hp⟩ => hp σ H G S
theorem dss_cons {st : Stmt} {r : List Stmt} {f g : SM} (h1 : DS X W own st f) (h2 : DSs X W own r g) : DSs X W own (st :: r) (sSeq f g) := by
  refine pss_imp (pss_cons h1 h2) fun E σ H hq => ?_
  obtain ⟨C, l, rw, G, S, hp⟩ := hq
  refine ⟨C, l, rw, G, S, ?_⟩
  unfold sSeq at hp
  cases e : f l rw with
  | exc x w => rw [e] at hp; exact hp
  | stuck => rw [e] at hp; exact hp
  | ok p =>
    obtain ⟨fl, l', rw'⟩ := p
    rw [e] at hp
    cases fl with
    | next => exact fun σ' H' G' S' => ⟨C, l', rw', G', S', hp⟩
    | ret d => exact hp
    | brk => exact hp
    | cont => exact hp
theorem dss_one {st : Stmt} {f : SM} (h1 : DS X W own st f) : DSs X W own [st] f := pss_one h1
/-- a word to the reader: the thing at i isn't changed from here on -/
theorem dss_frz {i : Nat} {sts : List Stmt} {g : SM} (h : DSs X W own sts g) : DSs X W own sts (sSeq (sFrz i) g) := by
  refine pss_imp (pss_locked h) fun E σ H hq => ?_
  obtain ⟨C, l, rw, G, S, hp⟩ := hq
  unfold sSeq sFrz at hp
  cases e : l[i]? with
  | none => rw [e] at hp; exact hp.elim
  | some x =>
    rw [e] at hp
    cases x with
    | no => exact hp.elim
    | val d => exact hp.elim
    | own d =>
      obtain ⟨p, e1, ow⟩ := S.ownAt e
      obtain ⟨o, ho, hob, hg, h0, hr, _, _⟩ := ow.obj
      have S1 : SR X.K C (l.set i .no) rw σ H G := S.forget
      have nx : ∀ (j : Nat) e, (l.set i .no)[j]? = some (.own e) → σ[j]? ≠ some (some (.ref p)) := fun j e' hj hz => by
        by_cases h : i = j
        · subst h
          have hi : i < l.length := by have := (List.getElem?_eq_some_iff.mp hj).1; simpa using this
          rw [List.getElem?_set_self hi] at hj; cases hj
        · rw [List.getElem?_set_ne h] at hj
          exact S.ow i j d e' p h e hj e1 hz
      have hi : i < σ.length := (List.getElem?_eq_some_iff.mp e1).1
      have es : σ.set i (some (.ref p)) = σ := by
        refine List.ext_getElem? fun j => ?_
        by_cases h : i = j
        · subst h; rw [List.getElem?_set_self hi, e1]
        · rw [List.getElem?_set_ne h]
      by_cases hd : isDic d = false
      · have S2 := (S1.freeze ho (fun ps z => ow.nTb (ho := ho) (.inl ⟨ps, z⟩)) hg h0 hr nx).setV (i := i) (hob.rep hg hd)
        rw [List.set_set, es] at S2
        exact .inl ⟨C, _, rw, _, S2, hp⟩
      · cases d with
        | dic ks ds =>
          obtain ⟨kvs, vs, eo, _⟩ := id hob
          subst eo
          refine .inr ⟨p, _, ho, trivial, fun od => ?_⟩
          have S2 := (S1.lock (od := od) ho hg h0 hr nx nTE_dK).setV (i := i) (hob.repK hg)
          rw [List.set_set, es] at S2
          exact ⟨C, _, rw, _, S2, hp⟩
        | _ => exact absurd rfl hd
/-! ### small statements -/
theorem ds_pass {pos : Pos} : DS X W own (.Pass pos) sNext := ps_imp ps_pass fun E σ H ⟨C, l, rw, G, S, hp⟩ => hp σ H G S
theorem ds_break {pos : Pos} : DS X W own (.Break pos) sBrk := ps_imp ps_break fun E σ H ⟨C, l, rw, G, S, hp⟩ => hp σ H G S
theorem ds_cont {pos : Pos} : DS X W own (.Continue pos) sCont := ps_imp ps_continue fun E σ H ⟨C, l, rw, G, S, hp⟩ => hp σ H G S
theorem ds_expr {e : Expr} {g : EM D} {pos : Pos} (h : DE X W e g) (hs : swapsWith e none pos.line X.env = pure false := by rfl) : DS X W own (.Expr e pos) (sExpr g) := by
  refine ps_imp (ps_expr h hs) fun E σ H hq => ?_
  obtain ⟨C, l, rw, G, S, hp⟩ := hq
  exact seqD (P := PSq X.K W own C E) S hp (fun x w z H' G' S' => z l σ H' G' S') (fun z => z) fun d rw1 v H1 G1 S1 s1 r1 h1 => h1 σ H1 G1 S1
theorem ds_set {i : Nat} {x : Str} {e : Expr} {g : EM D} {pos pos' : Pos} (hN : X.N.Nodup) (hi : X.N[i]? = some x) (hx : Loc X.env.scope x) (he : DE X W e g) (hs : swapsWith e (some (.Name x pos')) pos.line X.env = pure false := by rfl)
    (hf : X.fn x = true ∨ X.env.scope.names.lookup x = some .local := by first | exact .inl rfl | exact .inr rfl | assumption) : DS X W own (.Assign [.Name x pos'] e pos) (sSet i g) := by
  refine ps_imp (ps_set hN hi hx he hs hf) fun E σ H hq => ?_
  obtain ⟨C, l, rw, G, S, hp⟩ := hq
  exact seqD (P := PSq X.K W own C E) S hp (fun x w z H' G' S' => z l σ H' G' S') (fun z => z) fun d rw1 v H1 G1 S1 s1 r1 h1 => h1 _ H1 G1 (S1.setV r1)
theorem ds_setO {i : Nat} {x : Str} {e : Expr} {g : EM D} {pos pos' : Pos} (hN : X.N.Nodup) (hi : X.N[i]? = some x) (hx : Loc X.env.scope x) (he : DO X W e g) (hs : swapsWith e (some (.Name x pos')) pos.line X.env = pure false := by rfl)
    (hf : X.fn x = true ∨ X.env.scope.names.lookup x = some .local := by first | exact .inl rfl | exact .inr rfl | assumption) : DS X W own (.Assign [.Name x pos'] e pos) (sSetO i g) := by
  refine ps_imp (ps_set hN hi hx he hs hf) fun E σ H hq => ?_
  obtain ⟨C, l, rw, G, S, hp⟩ := hq
  refine seqO (P := PSq X.K W own C E) S hp (fun x w z H' G' S' => z l σ H' G' S') (fun z => z) fun d rw1 p H1 G1 S1 s1 f r1 h1 => h1 _ H1 G1 (S1.setO r1 fun j e _ hj hz => S.ownNe f j e hj hz)
theorem ds_ret {e : Expr} {g : EM D} {pos : Pos} (h : DE X W e g) : DS X W false (.Return (some e) pos) (sRet g) := by
  refine ps_imp (ps_ret h) fun E σ H hq => ?_
  obtain ⟨C, l, rw, G, S, hp⟩ := hq
  exact seqD (P := PSq X.K W false C E) S hp (fun x w z H' G' S' => z l σ H' G' S') (fun z => z) fun d rw1 v H1 G1 S1 s1 r1 h1 => h1 v σ H1 G1 S1 r1
theorem ds_retO {e : Expr} {g : EM D} {pos : Pos} (h : DO X W e g) : DS X W true (.Return (some e) pos) (sRet g) := by
  refine ps_imp (ps_ret h) fun E σ H hq => ?_
  obtain ⟨C, l, rw, G, S, hp⟩ := hq
  exact seqO (P := PSq X.K W true C E) S hp (fun x w z H' G' S' => z l σ H' G' S') (fun z => z) fun d rw1 p H1 G1 S1 s1 f r1 h1 => h1 (.ref p) σ H1 G1 S1 r1
theorem ds_retN {pos : Pos} : DS X W false (.Return none pos) sRetN := by
  refine ps_imp ps_retN fun E σ H hq => ?_
  obtain ⟨C, l, rw, G, S, hp⟩ := hq
  exact hp .non σ H G S (by unfold RetRep; rw [if_neg Bool.false_ne_true]; unfold Rep; rfl)
theorem ds_retV {i : Nat} {x : Str} {pos pos' : Pos} (h : PE X (.Name x pos') (tVar i)) : DS X W true (.Return (some (.Name x pos')) pos) (sRetV i) := by
  refine ps_imp (ps_ret h) fun E σ H hq => ?_
  obtain ⟨C, l, rw, G, S, hp⟩ := hq
  unfold sRetV at hp
  cases e : l[i]? with
  | none => rw [e] at hp; exact hp.elim
  | some x =>
    rw [e] at hp
    cases x with
    | no => exact hp.elim
    | val d => exact hp.elim
    | own d =>
      obtain ⟨p, e1, ow⟩ := S.ownAt e
      exact ⟨.ref p, e1, hp (.ref p) σ H G S (by unfold RetRep; rw [if_pos rfl]; exact ow)⟩
theorem ds_if {c : Expr} {a b : List Stmt} {gc : EM Bool} {f g : SM} {pos : Pos} (hc : DT X W c gc) (ha : DSs X W own a f) (hb : DSs X W own b g) : DS X W own (.If c a b pos) (sIf gc f g) := by
  refine ps_imp (ps_if hc ha hb) fun E σ H hq => ?_
  obtain ⟨C, l, rw, G, S, hp⟩ := hq
  refine seqT (P := PSq X.K W own C E) S hp (fun x w z H' G' S' => z l σ H' G' S') (fun z => z) fun b rw1 H1 G1 S1 s1 h1 => ?_
  cases b with
  | true => exact iteT ⟨C, l, rw1, G1, S1, h1⟩
  | false => exact iteF ⟨C, l, rw1, G1, S1, h1⟩

/-! ### targets -/
def tG (K : PySem.W.Frag) (js : List Nat) (tg : D → Dl → Option Dl) : TG := fun v σ H Q => ∃ C l rw G d l', SR K C l rw σ H G ∧ Rep K C.r G d v ∧ tg d l = some l' ∧ ∀ σ', SR K C l' rw σ' H G → (∀ vs : List Nat, (∀ j ∈ js, j ∈ vs) → wipe σ' vs = wipe σ vs) → Q σ' H
def tGs (K : PySem.W.Frag) (js : List Nat) (tg : List D → Dl → Option Dl) : TGs := fun vs σ H Q => ∃ C l rw G ds l', SR K C l rw σ H G ∧ Reps K C.r G ds vs ∧ tg ds l = some l' ∧ ∀ σ', SR K C l' rw σ' H G → (∀ vs : List Nat, (∀ j ∈ js, j ∈ vs) → wipe σ' vs = wipe σ vs) → Q σ' H
abbrev DG (X : Cx) (e : Expr) (js : List Nat) (tg : D → Dl → Option Dl) : Prop := PG X e (tG X.K js tg)
abbrev DGs (X : Cx) (es : List Expr) (js : List Nat) (tg : List D → Dl → Option Dl) : Prop := PGs X es (tGs X.K js tg)
theorem pg_imp {e : Expr} {t t' : TG} (h : PG X e t) (i : ∀ v σ H Q, t' v σ H Q → t v σ H Q) : PG X e t' := ⟨fun pins s σ H v u Q I r q => h.run pins s σ H v u Q I r (i v σ H Q q)⟩
theorem pgs_imp {e : List Expr} {t t' : TGs} (h : PGs X e t) (i : ∀ v σ H Q, t' v σ H Q → t v σ H Q) : PGs X e t' := ⟨fun pins s σ H v u Q I r q => h.run pins s σ H v u Q I r (i v σ H Q q)⟩
theorem wipe_set {σ : St} {i : Nat} {x : Option V} : ∀ {vs : List Nat}, i ∈ vs → wipe (σ.set i x) vs = wipe σ vs
  | [], h => by simp at h
  | v :: vs, h => by
    unfold wipe
    by_cases e : i = v
    · subst e
      by_cases h2 : i ∈ vs
      · rw [wipe_set h2]
      · have : ∀ (vs : List Nat) (σ : St), i ∉ vs → wipe (σ.set i x) vs = (wipe σ vs).set i x := by
          intro vs
          induction vs with
          | nil => intro σ _; rfl
          | cons u us ih =>
            intro σ hn
            unfold wipe
            rw [ih σ fun z => hn (List.mem_cons_of_mem _ z), List.set_comm]
            exact fun z => hn (z ▸ List.mem_cons_self)
        rw [this vs σ h2, List.set_set]
    · rw [wipe_set ((List.mem_cons.mp h).resolve_left e)]
def gN (i : Nat) : D → Dl → Option Dl := fun d l => some (l.set i (.val d))
theorem dg_name {i : Nat} {x : Str} {pos : Pos} (hN : X.N.Nodup) (hi : X.N[i]? = some x) (hx : Loc X.env.scope x) (hf : X.fn x = true ∨ X.env.scope.names.lookup x = some .local := by first | exact .inl rfl | exact .inr rfl | assumption) : DG X (.Name x pos) [i] (gN i) := by
  refine pg_imp (pg_name hN hi hx hf) fun v σ H Q hq => ?_
  obtain ⟨C, l, rw, G, d, l', S, r, e, k⟩ := hq
  cases e
  exact k _ (S.setV r) fun vs h => wipe_set (h i (by simp))
def gsNil : List D → Dl → Option Dl := fun ds l => match ds with
  | [] => some l
  | _ => none
def gsCons (t : D → Dl → Option Dl) (u : List D → Dl → Option Dl) : List D → Dl → Option Dl := fun ds l => match ds with
  | d :: r => (t d l).bind fun l1 => u r l1
  | [] => none
theorem dgs_nil : DGs X [] [] gsNil := by
  refine pgs_imp pgs_nil fun v σ H Q hq => ?_
  obtain ⟨C, l, rw, G, ds, l', S, r, e, k⟩ := hq
  unfold gsNil at e
  cases ds with
  | nil => cases e; unfold Reps at r; exact ⟨r, k σ S fun _ _ => rfl⟩
  | cons _ _ => cases e
theorem dgs_cons {e : Expr} {es : List Expr} {js ks : List Nat} {t : D → Dl → Option Dl} {u : List D → Dl → Option Dl} (h1 : DG X e js t) (h2 : DGs X es ks u)
    (hs : (assignEach (e :: es) X.env).map (·.2) = assign e X.env :: (assignEach es X.env).map (·.2) := by rfl) : DGs X (e :: es) (js ++ ks) (gsCons t u) := by
  refine pgs_imp (pgs_cons h1 h2 hs) fun v σ H Q hq => ?_
  obtain ⟨C, l, rw, G, ds, l', S, r, e, k⟩ := hq
  unfold gsCons at e
  cases ds with
  | nil => cases e
  | cons d ds =>
    unfold Reps at r
    obtain ⟨v1, vr, e1, r1, r2⟩ := r
    cases q : t d l with
    | none => simp [q] at e
    | some l1 =>
      simp only [q, Option.bind_some] at e
      refine ⟨v1, vr, e1, C, l, rw, G, d, l1, S, r1, q, fun σ1 S1 w1 => ?_⟩
      refine ⟨C, l1, rw, G, ds, l', S1, r2, e, fun σ2 S2 w2 => k σ2 S2 fun vs h => ?_⟩
      rw [w2 vs fun j hj => h j (List.mem_append_right _ hj), w1 vs fun j hj => h j (List.mem_append_left _ hj)]
def gT (n : Nat) (u : List D → Dl → Option Dl) : D → Dl → Option Dl := fun d l => match d with
  | .tup ds => if ds.length = n then u ds l else none
  | _ => none
theorem dg_tup {es : List Expr} {k n : Nat} {js : List Nat} {u : List D → Dl → Option Dl} {pos : Pos} (hc : X.calm = true) (h : DGs X es js u) (hn : (assignEach es X.env).length = n := by rfl) (hst : (assignEach es X.env).findIdx? (·.1) = none := by rfl) : DG X (.Tuple es k pos) js (gT n u) := by
  refine pg_imp (pg_tup hc h hn hst) fun v σ H Q hq => ?_
  obtain ⟨C, l, rw, G, d, l', S, r, e, q⟩ := hq
  cases d with
  | tup ds =>
    unfold gT at e
    dsimp only at e
    by_cases z : ds.length = n
    · rw [if_pos z] at e
      unfold Rep at r
      obtain ⟨a, vs, rfl, h1, h2, h3⟩ := r
      exact ⟨a, vs, rfl, Same.seqT S.sub h1, by rw [← h3.length]; exact z, C, l, rw, G, ds, l', S, h3, e, q⟩
    · rw [if_neg z] at e; cases e
  | _ => cases e
/-- target = value -/
def sAsg (g : EM D) (tg : D → Dl → Option Dl) : SM := fun l rw => (g l rw).bind fun p => match tg p.1 l with
  | some l' => .ok (.next, l', p.2)
  | none => .stuck
theorem ds_asg {tgt e : Expr} {g : EM D} {js : List Nat} {tg : D → Dl → Option Dl} {pos : Pos} (he : DE X W e g) (hg : DG X tgt js tg) (hs : swapsWithSole [tgt] e pos.line X.env = pure false := by rfl) (hw : swappedStores [tgt] e X.env = pure none := by rfl)
    (h1 : (assignEach [tgt] X.env).map (·.2) = [assign tgt X.env] := by rfl) : DS X W own (.Assign [tgt] e pos) (sAsg g tg) := by
  refine ps_imp (ps_asg he hg hs hw h1) fun E σ H hq => ?_
  obtain ⟨C, l, rw, G, S, hp⟩ := hq
  refine seqD (P := PSq X.K W own C E) S hp (fun x w z H' G' S' => z l σ H' G' S') (fun z => z) fun d rw1 v H1 G1 S1 s1 r1 h1 => ?_
  dsimp only [PSq] at h1
  cases q : tg d l with
  | none => rw [q] at h1; exact h1.elim
  | some l' =>
    rw [q] at h1
    exact ⟨C, l, rw1, G1, d, l', S1, r1, q, fun σ' S' _ => h1 σ' H1 G1 S'⟩

/-! ### loops -/
structure WalkD (K : PySem.W.Frag) (r : Option Addr) (G : Hp) (J : It) (ds : List D) : Prop where
  go : ∀ i H, Same G H → i < ds.length → J.go i H
  stop : ∀ i H, Same G H → ds.length ≤ i → J.stop i H
  yld : ∀ i H x H', Same G H → J.yld i H x H' → ∀ d, ds[i]? = some d → H' = H ∧ Rep K r G d x
def IPost (K : PySem.W.Frag) (W : WD) (C : C0) (l : Dl) (σ : St) (H G : Hp) (q : R (List D × Rw)) (Rr : It → Hp → Prop) : Prop :=
  match q with
  | .ok (ds, rw') => ∀ J H' G', SR K C l rw' σ H' G' → Gr K C.r H G H' G' → WalkD K C.r G' J ds → Rr J H'
  | .exc x rw' => ∀ H' G', SR K C l rw' σ H' G' → W x σ H'
  | .stuck => False
def tI (K : PySem.W.Frag) (W : WD) (g : EM (List D)) : TI := fun σ H Rr => ∃ C l rw G, SR K C l rw σ H G ∧ IPost K W C l σ H G (g l rw) Rr
abbrev DI (X : Cx) (W : WD) (tg e : Expr) (g : EM (List D)) : Prop := PI X tg e (tI X.K W g)
theorem pi_imp {tg e : Expr} {t t' : TI} (h : PI X tg e t) (i : ∀ σ H R, t' σ H R → t σ H R) : PI X tg e t' := ⟨fun pins s σ H R I q => h.run pins s σ H R I (i σ H R q)⟩
theorem seqI {K : PySem.W.Frag} {C : C0} {l : Dl} {rw : Rw} {σ : St} {H G : Hp} {β : Type} {g : EM (List D)} {k : List D × Rw → R β} {P : R β → Prop} {Q' : It → Hp → Prop} (S : SR K C l rw σ H G) (hp : P ((g l rw).bind k)) (hx : ∀ x w, P (.exc x w) → ∀ H' G', SR K C l w σ H' G' → W x σ H') (hs : P .stuck → False)
    (f : ∀ ds rw' J H' G', SR K C l rw' σ H' G' → Gr K C.r H G H' G' → WalkD K C.r G' J ds → P (k (ds, rw')) → Q' J H') : tI K W g σ H Q' := by
  refine ⟨C, l, rw, G, S, ?_⟩
  cases e1 : g l rw with
  | exc x w => rw [e1] at hp; exact hx x w hp
  | stuck => rw [e1] at hp; exact (hs hp).elim
  | ok p =>
    obtain ⟨d, rw'⟩ := p
    rw [e1] at hp
    exact fun vs H' G' S' s r => f d rw' vs H' G' S' s r hp
theorem SPost.up {K : PySem.W.Frag} {C : C0} {G1 : Hp} {q : R (Fl × Dl × Rw)} {E : Ends} (g0 : Same C.G0 G1) (gn : ∀ a o, G1 a = some o → C.G0 a = some o ∨ C.H0 a = none) (h : SPost K W own C q E) : SPost K W own ⟨C.r, C.H0, G1⟩ q E := by
  cases q with
  | exc x w => exact fun l' σ' H' G' S' => h l' σ' H' G' (S'.down g0 gn)
  | stuck => exact h
  | ok p =>
    obtain ⟨fl, l', rw'⟩ := p
    cases fl with
    | next => exact fun σ' H' G' S' => h σ' H' G' (S'.down g0 gn)
    | brk => exact fun σ' H' G' S' => h σ' H' G' (S'.down g0 gn)
    | cont => exact fun σ' H' G' S' => h σ' H' G' (S'.down g0 gn)
    | ret d => exact fun v σ' H' G' S' r => h v σ' H' G' (S'.down g0 gn) r
theorem ds_for {tgt iter : Expr} {body : List Stmt} {g : EM (List D)} {js : List Nat} {tg : D → Dl → Option Dl} {f : SM} {pos : Pos} (hp : PassesOwn (model X.prog X.w) X.A X.env X.xe) (hc : X.calm = true) (hi : DI X W tgt iter g) (hg : DG X tgt js tg) (hb : DSs X W own body f)
    (hs : ∀ x, foldedSetIterable iter X.env x = pure x := by intro _; rfl) : DS X W own (.For tgt iter body [] pos) (sFor g tg f) := by
  refine ps_imp (ps_for hp hc hi hg hb hs) fun E σ H hq => ?_
  obtain ⟨C, l, rw, G, S, hp⟩ := hq
  refine seqI (P := PSq X.K W own C E) S hp (fun x w z H' G' S' => z l σ H' G' S') (fun z => z) fun ds rw1 J H1 G1 S1 s1 wd h1 => ?_
  refine ⟨fun i m σ H => m = ds.length - i ∧ i ≤ ds.length ∧ ∃ l rw G, SR X.K ⟨C.r, C.H0, G1⟩ l rw σ H G ∧ SPost X.K W own ⟨C.r, C.H0, G1⟩ (sLoop tg f (ds.drop i) l rw) E, ⟨ds.length, rfl, Nat.zero_le _, l, rw1, G1, S1.up, by rw [List.drop_zero]; exact SPost.up S1.g0 S1.gn h1⟩, ?_⟩
  rintro i m σ2 H2 ⟨rfl, hi, l2, rw2, G2, S2, h2⟩
  by_cases hlt : i < ds.length
  · refine .inr ⟨wd.go i H2 (S2.g0.trans S2.sub) hlt, ?_⟩
    have hd : ds.drop i = ds[i] :: ds.drop (i + 1) := List.drop_eq_getElem_cons hlt
    rw [hd] at h2
    unfold sLoop at h2
    cases q : tg ds[i] l2 with
    | none => rw [q] at h2; exact h2.elim
    | some l3 =>
      rw [q] at h2
      dsimp only at h2
      refine ⟨fun σ' H' => ∃ l rw G, SR X.K ⟨C.r, C.H0, G1⟩ l rw σ' H' G ∧ SPost X.K W own ⟨C.r, C.H0, G1⟩ (sLoop tg f (ds.drop (i + 1)) l rw) E, fun σ' H' hN => ⟨_, by omega, rfl, hlt, hN⟩, fun x H' y => ?_⟩
      obtain ⟨e, r⟩ := wd.yld i H2 x H' (S2.g0.trans S2.sub) y _ (List.getElem?_eq_getElem hlt)
      subst e
      refine ⟨⟨C.r, C.H0, G1⟩, l2, rw2, G2, ds[i], l3, S2, r.mono S2.g0, q, fun σ' S' _ => ?_⟩
      refine ⟨⟨C.r, C.H0, G1⟩, l3, rw2, G2, S', ?_⟩
      cases e : f l3 rw2 with
      | exc x w => rw [e] at h2; exact h2
      | stuck => rw [e] at h2; exact h2
      | ok p =>
        obtain ⟨fl, l', rw'⟩ := p
        rw [e] at h2
        cases fl with
        | next => exact fun σ' H' G' S' => ⟨l', rw', G', S', h2⟩
        | cont => exact fun σ' H' G' S' => ⟨l', rw', G', S', h2⟩
        | brk => exact h2
        | ret d => exact h2
  · have e : i = ds.length := by omega
    subst e
    rw [List.drop_length] at h2
    exact .inl ⟨wd.stop _ H2 (S2.g0.trans S2.sub) (Nat.le_refl _), h2 σ2 H2 G2 S2⟩
theorem ds_while {c : Expr} {body : List Stmt} {gc : EM Bool} {f : SM} {pos : Pos} (n : Nat) (hp : PassesOwn (model X.prog X.w) X.A X.env X.xe) (hc : DT X W c gc) (hb : DSs X W own body f) : DS X W own (.While c body [] pos) (sWhile gc f n) := by
  refine ps_imp (ps_while hp hc hb) fun E σ H hq => ?_
  obtain ⟨C, l, rw, G, S, hp⟩ := hq
  refine ⟨fun m σ H => ∃ l rw G, SR X.K C l rw σ H G ∧ SPost X.K W own C (sWhile gc f m l rw) E, ⟨n, l, rw, G, S, hp⟩, ?_⟩
  rintro m σ2 H2 ⟨l2, rw2, G2, S2, h2⟩
  cases m with
  | zero => exact h2.elim
  | succ m =>
    unfold sWhile at h2
    refine seqT (P := PSq X.K W own C E) S2 h2 (fun x w z H' G' S' => z l2 σ2 H' G' S') (fun z => z) fun b rw3 H3 G3 S3 s3 h3 => ?_
    cases b with
    | false => exact iteF (h3 σ2 H3 G3 S3)
    | true =>
      refine iteT ⟨fun σ' H' => ∃ l rw G, SR X.K C l rw σ' H' G ∧ SPost X.K W own C (sWhile gc f m l rw) E, fun σ' H' hN => ⟨m, Nat.lt_succ_self _, hN⟩, C, l2, rw3, G3, S3, ?_⟩
      dsimp only [PSq] at h3
      rw [if_pos rfl] at h3
      cases e : f l2 rw3 with
      | exc x w => rw [e] at h3; exact h3
      | stuck => rw [e] at h3; exact h3
      | ok p =>
        obtain ⟨fl, l', rw'⟩ := p
        rw [e] at h3
        cases fl with
        | next => exact fun σ' H' G' S' => ⟨l', rw', G', S', h3⟩
        | cont => exact fun σ' H' G' S' => ⟨l', rw', G', S', h3⟩
        | brk => exact h3
        | ret d => exact h3
end
end HD
end
section
/-! Rules of the data layer: what is walked, comprehensions, own things changed, borrowed; calls; defs. -/
namespace HD
open PySem PySem.Spec L2
open PyProof.Rows hiding St

/-! ### what is walked -/
def itemsOf : D → Option (List D)
  | .lst ds => some ds
  | .tup ds => some ds
  | _ => none
def aItems (g : EM D) : EM (List D) := fun l rw => (g l rw).bind fun p => ofO (itemsOf p.1) p.2
def rangeD (lo : Int) (n : Nat) : List D := (List.range n).map fun (k : Nat) => .int (lo + (k : Int))
theorem small62 {j : Int} (h : -1000000 ≤ j ∧ j ≤ 1000000) : -(2 ^ 62) ≤ j ∧ j < 2 ^ 62 := ⟨Int.le_trans (by decide) h.1, Int.lt_of_le_of_lt h.2 (by decide)⟩
def rng1 : List D → Option (List D)
  | [.int j] => if -1000000 ≤ j ∧ j ≤ 1000000 then some (rangeD 0 j.toNat) else none
  | _ => none
def rng2 : List D → Option (List D)
  | [.int i, .int j] => if (-1000000 ≤ i ∧ i ≤ 1000000) ∧ (-1000000 ≤ j ∧ j ≤ 1000000) then some (rangeD i (j - i).toNat) else none
  | _ => none
def aRng (f : List D → Option (List D)) (g : EM (List D)) : EM (List D) := fun l rw => (g l rw).bind fun p => ofO (f p.1) p.2
section
variable {K : PySem.W.Frag} {r : Option Addr} {G : Hp}
theorem walk_l {a : Addr} {vs : List V} {ds : List D} (h : G a = some (.lst vs)) (q : Reps K r G ds vs) : WalkD K r G (Itl K a) ds where
  go := fun i H s hi => by
    have hl := q.length
    exact ⟨vs, vs[i]'(by omega), .of (s _ _ h), List.getElem?_eq_getElem _⟩
  stop := fun i H s hi => ⟨vs, .of (s _ _ h), by rw [← q.length]; exact hi⟩
  yld := fun i H x H' s y d hd => by
    obtain ⟨e, y⟩ := y
    obtain ⟨v, e1, e2⟩ := q.get hd
    have e3 := y vs (.of (s _ _ h))
    rw [e1] at e3; cases e3
    exact ⟨e, e2⟩
theorem walk_t {a : Addr} {vs : List V} {ds : List D} (h : SqT K G a vs) (q : Reps K r G ds vs) : WalkD K r G (Itt K a) ds where
  go := fun i H s hi => by
    have hl := q.length
    exact ⟨vs, vs[i]'(by omega), Same.seqT s h, List.getElem?_eq_getElem _⟩
  stop := fun i H s hi => ⟨vs, Same.seqT s h, by rw [← q.length]; exact hi⟩
  yld := fun i H x H' s y d hd => by
    obtain ⟨e, y⟩ := y
    obtain ⟨v, e1, e2⟩ := q.get hd
    have e3 := y vs (Same.seqT s h)
    rw [e1] at e3; cases e3
    exact ⟨e, e2⟩
theorem rangeD_length {lo : Int} {n : Nat} : (rangeD lo n).length = n := by simp [rangeD]
theorem walk_r {lo : Int} {n : Nat} : WalkD K r G (Itr lo n) (rangeD lo n) where
  go := fun i H s hi => by rw [rangeD_length] at hi; exact hi
  stop := fun i H s hi => by rw [rangeD_length] at hi; exact hi
  yld := fun i H x H' s y d hd => by
    obtain ⟨e, y⟩ := y
    refine ⟨e, ?_⟩
    unfold rangeD at hd
    rw [List.getElem?_map] at hd
    cases q : (List.range n)[i]? with
    | none => rw [q] at hd; cases hd
    | some k =>
      rw [q] at hd
      have hk : k = i := by
        have hi : i < (List.range n).length := (List.getElem?_eq_some_iff.mp q).1
        rw [List.getElem?_eq_getElem hi] at q
        simpa using q.symm
      cases hd
      subst y
      unfold Rep
      rw [hk]
end
section
variable {X : Cx} {W : WD} {own : Bool}
theorem pi_or {tg e : Expr} {t t' : TI} (h : PI X tg e t) (h' : PI X tg e t') : PI X tg e (fun σ H R => t σ H R ∨ t' σ H R) := ⟨fun pins s σ H R I q => q.elim (h.run pins s σ H R I) (h'.run pins s σ H R I)⟩
theorem di_seq {tg e : Expr} {g : EM D} (h : DE X W e g) : DI X W tg e (aItems g) := by
  refine pi_imp (pi_or (pi_list h) (pi_tup h)) fun σ H Rr hq => ?_
  obtain ⟨C, l, rw, G, S, hp⟩ := hq
  cases e : g l rw with
  | exc x w => unfold aItems at hp; rw [e] at hp; exact .inl ⟨C, l, rw, G, S, by rw [e]; exact hp⟩
  | stuck => unfold aItems at hp; rw [e] at hp; exact hp.elim
  | ok p =>
    obtain ⟨d, rw'⟩ := p
    unfold aItems at hp
    rw [e] at hp
    cases d with
    | lst ds =>
      refine .inl ⟨C, l, rw, G, S, ?_⟩
      rw [e]
      intro v H1 G1 S1 s1 r1
      unfold Rep at r1
      obtain ⟨a, vs, rfl, h1, h2, h3⟩ := r1
      exact ⟨a, rfl, ⟨vs, .of (S1.sub _ _ h1)⟩, hp (Itl X.K a) H1 G1 S1 s1 (walk_l h1 h3)⟩
    | tup ds =>
      refine .inr ⟨C, l, rw, G, S, ?_⟩
      rw [e]
      intro v H1 G1 S1 s1 r1
      unfold Rep at r1
      obtain ⟨a, vs, rfl, h1, h2, h3⟩ := r1
      exact ⟨a, rfl, ⟨vs, Same.seqT S1.sub h1⟩, hp (Itt X.K a) H1 G1 S1 s1 (walk_t h1 h3)⟩
    | _ => exact hp.elim
theorem di_rng1 {tg a : Expr} {g : EM (List D)} {p pos : Pos} (hg : Gl X "range") (hm : X.mg "range" = none) (ha : DA X W [a] g) (hs : starEach [a] X.env = [(false, eval a X.env)] := by rfl) : DI X W tg (.Call (.Name "range" p) [a] [] pos) (aRng rng1 g) := by
  refine pi_imp (pi_range1 hg hm ha hs) fun σ H Rr hq => ?_
  obtain ⟨C, l, rw, G, S, hp⟩ := hq
  refine seqA (P := fun q => IPost X.K W C l σ H G q Rr) S hp (fun x w z H' G' S' => z H' G' S') (fun z => z) fun ds rw1 vs H1 G1 S1 s1 r1 h1 => ?_
  dsimp only at h1
  cases e : rng1 ds with
  | none => rw [e] at h1; exact h1.elim
  | some xs =>
    rw [e] at h1
    unfold rng1 at e
    split at e
    case h_2 => cases e
    case h_1 j =>
      split at e
      case isFalse => cases e
      case isTrue hj =>
        cases e
        have rv : vs = [.int j] := Reps.ints (ns := [j]) r1
        exact ⟨j, rv, (small62 hj).1, (small62 hj).2, h1 _ H1 G1 S1 s1 walk_r⟩
theorem di_rng2 {tg a b : Expr} {g : EM (List D)} {p pos : Pos} (hg : Gl X "range") (hm : X.mg "range" = none) (ha : DA X W [a, b] g) (hs : starEach [a, b] X.env = [(false, eval a X.env), (false, eval b X.env)] := by rfl) (hs2 : starEach [b] X.env = [(false, eval b X.env)] := by rfl) :
    DI X W tg (.Call (.Name "range" p) [a, b] [] pos) (aRng rng2 g) := by
  refine pi_imp (pi_range2 hg hm ha hs hs2) fun σ H Rr hq => ?_
  obtain ⟨C, l, rw, G, S, hp⟩ := hq
  refine seqA (P := fun q => IPost X.K W C l σ H G q Rr) S hp (fun x w z H' G' S' => z H' G' S') (fun z => z) fun ds rw1 vs H1 G1 S1 s1 r1 h1 => ?_
  dsimp only at h1
  cases e : rng2 ds with
  | none => rw [e] at h1; exact h1.elim
  | some xs =>
    rw [e] at h1
    unfold rng2 at e
    split at e
    case h_2 => cases e
    case h_1 i j =>
      split at e
      case isFalse => cases e
      case isTrue hj =>
        cases e
        have rv : vs = [.int i, .int j] := Reps.ints (ns := [i, j]) r1
        exact ⟨i, j, rv, ⟨(small62 hj.1).1, (small62 hj.1).2, (small62 hj.2).1, (small62 hj.2).2⟩, h1 _ H1 G1 S1 s1 walk_r⟩

/-! ### comprehensions -/
end
def noX {α : Type} (r : R α) : R α := match r with
  | .exc _ _ => .stuck
  | q => q
def compL (tg : D → Dl → Option Dl) (c : EM Bool) (e : EM D) (lw : Dl) : List D → Rw → R (List D × Rw)
  | [], rw => .ok ([], rw)
  | d :: ds, rw => match tg d lw with
    | none => .stuck
    | some l1 => (noX (c l1 rw)).bind fun p => if p.1 = true then (noX (e l1 p.2)).bind fun q => (compL tg c e lw ds q.2).bind fun t => .ok (q.1 :: t.1, t.2) else compL tg c e lw ds p.2
def wipeD (l : Dl) : List Nat → Dl
  | [] => l
  | v :: vs => (wipeD l vs).set v .no
def eComp (g : EM (List D)) (tg : D → Dl → Option Dl) (c : EM Bool) (e : EM D) (vs : List Nat) : EM D := fun l rw => (g l rw).bind fun p => if p.1.length ≤ sizeLine then (compL tg c e (wipeD l vs) p.1 p.2).bind fun q => .ok (.lst q.1, q.2) else .stuck
def cYes : EM Bool := fun _ rw => .ok (true, rw)
abbrev W0 : WD := fun _ _ _ => False
section
variable {K : PySem.W.Frag} {W : WD} {C : C0} {l : Dl} {rw : Rw} {σ : St} {H G H' G' : Hp}
theorem SR.wiped (S : SR K C l rw σ H G) : ∀ vs : List Nat, SR K C (wipeD l vs) rw (wipe σ vs) H G
  | [] => S
  | v :: vs => by
    have S1 := SR.wiped S vs
    unfold wipeD wipe
    have S2 : SR K C ((wipeD l vs).set v .no) rw (wipe σ vs) H G := S1.forget
    refine ⟨S2.sub, S2.fr, S2.ft, S2.tabs, S2.g0, S2.gn, S2.gt, by simp [S1.len], fun j x e => ?_, fun j k d' e' q hjk hj hk h1 h2 => ?_, S2.row⟩
    · by_cases h : v = j
      · subst h
        have hi : v < (wipeD l vs).length := by have := (List.getElem?_eq_some_iff.mp e).1; simpa using this
        rw [List.getElem?_set_self hi] at e
        cases e
        exact ⟨none, by rw [List.getElem?_set_self (by rw [S1.len]; exact hi)], trivial⟩
      · obtain ⟨u, e1, e2⟩ := S2.sl j x e
        exact ⟨u, by rw [List.getElem?_set_ne h]; exact e1, e2⟩
    · have n1 : v ≠ j := fun z => by
        subst z
        have hi : v < (wipeD l vs).length := by have := (List.getElem?_eq_some_iff.mp hj).1; simpa using this
        rw [List.getElem?_set_self hi] at hj; cases hj
      have n2 : v ≠ k := fun z => by
        subst z
        have hi : v < (wipeD l vs).length := by have := (List.getElem?_eq_some_iff.mp hk).1; simpa using this
        rw [List.getElem?_set_self hi] at hk; cases hk
      rw [List.getElem?_set_ne n1] at h1
      rw [List.getElem?_set_ne n2] at h2
      exact S2.ow j k d' e' q hjk hj hk h1 h2
theorem RowOk.updNe {r : Option Addr} {p : Addr} {o : HO} (w : RowOk K r rw H G) (hr : r ≠ some p) : RowOk K r rw (upd H p o) G := by
  unfold RowOk at w ⊢
  cases e : r with
  | none => rw [e] at w; cases rw <;> exact w
  | some a =>
    rw [e] at w
    cases rw with
    | none => exact w
    | some x =>
      obtain ⟨w1, v, w2, w3⟩ := w
      have ne : a ≠ p := fun z => hr (by rw [e, z])
      exact ⟨w1, v, by rw [upd_ne ne]; exact w2, w3⟩
/-- something in the heap that is not shown changes -/
theorem Gr.mutN {K : PySem.W.Frag} {r : Option Addr} {H1 G1 : Hp} {p : Addr} {o : HO} (g : Gr K r H G H1 G1) (hp : H p = none) (h1 : ∃ xs, H1 p = some (.lst xs)) (hg : G1 p = none) : Gr K r H G (upd H1 p o) G1 :=
  ⟨fun a u e ne nt => by rw [upd_ne (ne_of_none e hp)]; exact g.h a u e ne nt, g.g, g.n, fun a u e => by rw [upd_ne (ne_of_none e hg)]; exact g.s a u e, fun a u e => by
    rw [upd_ne (ne_of_none e hp)]; exact g.t a u e, g.tb.trans (TabR.put fun u e => by obtain ⟨xs, z⟩ := h1; rw [z] at e; cases e; exact nTE_lst)⟩
end
section
variable {X : Cx} {W : WD} {own : Bool}
/-- the body of the reading of a comprehension -/
theorem redLc {g : EM (List D)} {js : List Nat} {tg : D → Dl → Option Dl} {c : EM Bool} {e : EM D} {vs : List Nat} (hj : ∀ j ∈ js, j ∈ vs) :
    ∀ σ H Q, tO X.K W (eComp g tg c e vs) σ H Q → tLc (tI X.K W g) (tG X.K js tg) (tT X.K W0 c) (tD X.K W0 e) vs σ H Q := by
  intro σ H Q hq
  obtain ⟨C, l, rw, G, S, hp⟩ := hq
  refine seqI (P := POq X.K W C l σ H G Q) S hp (fun _ _ z => z) (fun z => z) fun ds rw1 J H1 G1 S1 s1 wd h1 => ?_
  dsimp only [POq] at h1
  by_cases hz : ds.length ≤ sizeLine
  case neg => rw [if_neg hz] at h1; exact h1.elim
  rw [if_pos hz] at h1
  intro D hD
  obtain ⟨hD0, hDr⟩ := S1.h0none hD
  have hDG := S1.gnone hD
  have HD0 : H D = none := by
    cases q : H D with
    | none => rfl
    | some o => obtain ⟨o', z⟩ := s1.t _ _ q; rw [hD] at z; cases z
  refine ⟨fun i m H2 => m = ds.length - i ∧ i ≤ ds.length ∧ ∃ rw2 G2 acc done, RowOk X.K C.r rw2 H2 G2 ∧ Gr X.K C.r H1 G1 H2 G2 ∧ G2 D = none ∧ H2 D = some (.lst acc) ∧ acc.length ≤ i ∧ Reps X.K C.r G2 done acc ∧
    OPost X.K W C l σ H G ((compL tg c e (wipeD l vs) (ds.drop i) rw2).bind fun q => .ok (.lst (done ++ q.1), q.2)) Q, ⟨ds.length, rfl, Nat.zero_le _, rw1, G1, [], [], ?_, Gr.newO S1.sub hD, hDG, upd_same, Nat.le_refl _, Reps.nil, ?_⟩, ?_⟩
  · exact (S1.newO (o := .lst []) hD).row
  · rw [List.drop_zero]; exact h1
  rintro i m H2 ⟨rfl, hi, rw2, G2, acc, done, w2, g2, hDG2, hD2, ha, hr, h2⟩
  have S2 : SR X.K C l rw2 σ H2 G2 := S1.grow g2 w2
  have sub2 : Same G1 H2 := g2.g.trans S2.sub
  by_cases hlt : i < ds.length
  · refine .inr ⟨wd.go i H2 sub2 hlt, ?_⟩
    have hd : ds.drop i = ds[i] :: ds.drop (i + 1) := List.drop_eq_getElem_cons hlt
    rw [hd] at h2
    unfold compL at h2
    cases q : tg ds[i] (wipeD l vs) with
    | none => rw [q] at h2; exact h2.elim
    | some l3 =>
      rw [q] at h2
      dsimp only at h2
      refine ⟨fun H' => ∃ rw2 G2 acc done, RowOk X.K C.r rw2 H' G2 ∧ Gr X.K C.r H1 G1 H' G2 ∧ G2 D = none ∧ H' D = some (.lst acc) ∧ acc.length ≤ i + 1 ∧ Reps X.K C.r G2 done acc ∧
        OPost X.K W C l σ H G ((compL tg c e (wipeD l vs) (ds.drop (i + 1)) rw2).bind fun q => .ok (.lst (done ++ q.1), q.2)) Q, fun H' hN => ⟨_, by omega, rfl, hlt, hN⟩, fun x H' y => ?_⟩
      obtain ⟨ey, r⟩ := wd.yld i H2 x H' sub2 y _ (List.getElem?_eq_getElem hlt)
      subst ey
      have S2w := S2.wiped vs
      refine ⟨C, wipeD l vs, rw2, G2, ds[i], l3, S2w, r.mono g2.g, q, fun σ' S' wj => ?_⟩
      have wp : ∀ (vs : List Nat) (σ : St), wipe (wipe σ vs) vs = wipe σ vs := by
        intro vs σ
        refine List.ext_getElem? fun j => ?_
        by_cases hv : j ∈ vs
        · by_cases hl : j < (wipe σ vs).length
          · have a1 : ∀ (τ : St), j < τ.length → (wipe τ vs)[j]? = some none := by
              intro τ hτ
              cases z : (wipe τ vs)[j]? with
              | none =>
                have := List.getElem?_eq_none_iff.mp z
                rw [wipe_length] at this; omega
              | some u =>
                cases u with
                | none => rfl
                | some v => exact absurd hv (wipe_some z).2
            rw [a1 _ hl, a1 _ (by rw [wipe_length] at hl; exact hl)]
          · rw [List.getElem?_eq_none (by rw [wipe_length]; omega), List.getElem?_eq_none (by omega)]
        · rw [wipe_out hv]
      refine ⟨by rw [wj vs hj, wp], ?_⟩
      refine ⟨C, l3, rw2, G2, S', ?_⟩
      have GRD : ∀ {H3 G3 : Hp}, Gr X.K C.r H' G2 H3 G3 → H3 D = some (.lst acc) ∧ G3 D = none := fun {H3 G3} g3 => by
        refine ⟨g3.h _ _ hD2 hDr nTb_lst, ?_⟩
        cases z : G3 D with
        | none => rfl
        | some o =>
          rcases g3.n _ _ z with z | ⟨z, _⟩
          · rw [hDG2] at z; cases z
          · rw [hD2] at z; cases z
      cases e1 : c l3 rw2 with
      | exc x w => rw [e1] at h2; exact h2.elim
      | stuck => rw [e1] at h2; exact h2.elim
      | ok p =>
        obtain ⟨b, rw3⟩ := p
        rw [e1] at h2
        intro H3 G3 S3 g3
        obtain ⟨hD3, hDG3⟩ := GRD g3
        replace h2 : OPost X.K W C l σ H G ((if b = true then (noX (e l3 rw3)).bind fun q => (compL tg c e (wipeD l vs) (ds.drop (i + 1)) q.2).bind fun t => .ok (q.1 :: t.1, t.2) else compL tg c e (wipeD l vs) (ds.drop (i + 1)) rw3).bind fun q => .ok (.lst (done ++ q.1), q.2)) Q := h2
        cases b with
        | false =>
          refine iteF ⟨rw3, G3, acc, done, S3.row, g2.trans g3, hDG3, hD3, by omega, hr.mono g3.g, ?_⟩
          simpa using h2
        | true =>
          refine iteT ?_
          rw [if_pos rfl] at h2
          refine ⟨C, l3, rw3, G3, S3, ?_⟩
          cases e2 : e l3 rw3 with
          | exc x w => rw [e2] at h2; exact h2.elim
          | stuck => rw [e2] at h2; exact h2.elim
          | ok p =>
            obtain ⟨d, rw4⟩ := p
            rw [e2] at h2
            intro v H4 G4 S4 g4 r4
            obtain ⟨hD4, hDG4⟩ := GRD (g3.trans g4)
            refine ⟨acc, hD4, by omega, rw4, G4, acc ++ [v], done ++ [d], ?_, ?_, hDG4, upd_same, by simp; omega, (hr.mono (g3.trans g4).g).append (Reps.cons r4 Reps.nil), ?_⟩
            · exact S4.row.updNe hDr
            · exact Gr.mutN ((g2.trans g3).trans g4) hD ⟨_, hD4⟩ hDG4
            · have : ∀ (q : R (List _root_.HD.D × Rw)), (((R.ok (d, rw4)).bind fun q => (compL tg c e (wipeD l vs) (ds.drop (i + 1)) q.2).bind fun t => .ok (q.1 :: t.1, t.2)).bind fun q => R.ok (_root_.HD.D.lst (done ++ q.1), q.2)) = (compL tg c e (wipeD l vs) (ds.drop (i + 1)) rw4).bind fun q => .ok (.lst (done ++ [d] ++ q.1), q.2) := by
                intro _
                show ((compL tg c e (wipeD l vs) (ds.drop (i + 1)) rw4).bind fun t => R.ok (d :: t.1, t.2)).bind _ = _
                cases compL tg c e (wipeD l vs) (ds.drop (i + 1)) rw4 with
                | ok p => simp [R.bind]
                | exc x w => rfl
                | stuck => rfl
              rw [← this .stuck]
              exact h2
  · have ei : i = ds.length := by omega
    subst ei
    rw [List.drop_length] at h2
    refine .inl ⟨wd.stop _ H2 sub2 (Nat.le_refl _), ?_⟩
    replace h2 : OPost X.K W C l σ H G (.ok (.lst (done ++ []), rw2)) Q := h2
    rw [List.append_nil] at h2
    exact h2 D H2 G2 S2 (s1.trans g2) HD0 ⟨D, rfl, hDG2, hD0, hDr, acc, hD2, by omega, hr⟩
end
end HD
end
section
/-! Rules of the data layer: comprehensions at their places, own things changed, borrowed; the row; calls; defs. -/
namespace HD
open PySem PySem.Spec L2
open PyProof.Rows hiding St

section
variable {X : Cx} {W : WD} {own : Bool}
theorem redFrz {K : PySem.W.Frag} {g : EM D} (hl : ∀ l rw d rw', g l rw = .ok (d, rw') → isDic d = false) : ∀ σ H Q, tD K W g σ H Q → tO K W g σ H Q := by
  intro σ H Q hq
  obtain ⟨C, l, rw, G, S, hp⟩ := hq
  refine ⟨C, l, rw, G, S, ?_⟩
  cases e1 : g l rw with
  | exc x w => rw [e1] at hp; exact hp
  | stuck => rw [e1] at hp; exact hp
  | ok p =>
    obtain ⟨d, rw'⟩ := p
    rw [e1] at hp
    intro p H' G' S' s f ow
    obtain ⟨G2, S2, g2, r2⟩ := redFrzL (hl _ _ _ _ e1) S S' s f ow
    exact hp (.ref p) H' G2 S2 g2 r2
theorem eComp_lst {g : EM (List D)} {tg : D → Dl → Option Dl} {c : EM Bool} {e : EM D} {vs : List Nat} : ∀ l rw d rw', eComp g tg c e vs l rw = .ok (d, rw') → isDic d = false := by
  intro l rw d rw' h
  unfold eComp at h
  cases e1 : g l rw with
  | exc x w => rw [e1] at h; cases h
  | stuck => rw [e1] at h; cases h
  | ok p =>
    rw [e1] at h
    have h : (if p.1.length ≤ sizeLine then (compL tg c e (wipeD l vs) p.1 p.2).bind fun q => .ok (D.lst q.1, q.2) else R.stuck) = .ok (d, rw') := h
    split at h
    case isFalse => cases h
    case isTrue =>
      cases e2 : compL tg c e (wipeD l vs) p.1 p.2 with
      | exc x w => rw [e2] at h; cases h
      | stuck => rw [e2] at h; cases h
      | ok q => rw [e2] at h; cases h; rfl
abbrev DTs (X : Cx) (W : WD) (ifs : List Expr) (g : EM Bool) : Prop := PTs X ifs (tT X.K W g)
theorem dts_nil : DTs X W [] cYes := ⟨fun pins s σ H Q I hq => by
  obtain ⟨C, l, rw, G, S, hp⟩ := hq
  exact pts_nil.run pins s σ H Q I (hp H G S (Gr.refl S.sub))⟩
theorem dts_one {c : Expr} {g : EM Bool} (h : DT X W c g) : DTs X W [c] g := pts_one h
/-- [elt for target in iter if ..]: a new list -/
theorem do_lc {elt tgt iter : Expr} {ifs : List Expr} {scope : Scope} {ow : List (Str × Nat)} {pos : Pos} {g : EM (List D)} {js : List Nat} {tg : D → Dl → Option Dl} {c : EM Bool} {e : EM D} (hc : X.calm = true) (hN : X.N.Nodup) (hi : DI X W tgt iter g) (ok : BlkOk X.N X.env.scope scope ow)
    (hj : ∀ j ∈ js, j ∈ ow.map (·.2))
    (hg : ∀ (s : Shared) (H : Hp) (Cc : Addr) (cl : List (Str × Addr)) (fp : List Addr), DG (X.blk s H scope (compEnvC scope cl Cc X.env) fp) tgt js tg)
    (ht : ∀ (s : Shared) (H : Hp) (Cc : Addr) (cl : List (Str × Addr)) (fp : List Addr), DTs (X.blk s H scope (compEnvC scope cl Cc X.env) fp) W0 ifs c)
    (he : ∀ (s : Shared) (H : Hp) (Cc : Addr) (cl : List (Str × Addr)) (fp : List Addr), DE (X.blk s H scope (compEnvC scope cl Cc X.env) fp) W0 elt e) (hs : ∀ x, foldedSetIterable iter X.env x = pure x := by intro _; rfl) :
    DO X W (.ListComp elt [⟨tgt, iter, ifs, 0⟩] scope pos) (eComp g tg c e (ow.map (·.2))) := pe_imp (pe_lc (wi := tI X.K W g) (g := tG X.K js tg) (tt := tT X.K W0 c) (te := tD X.K W0 e) hc hN hi ok hg ht he hs) (redLc hj)
theorem ds_setLc {i : Nat} {y : Str} {py : Pos} {elt tgt iter : Expr} {ifs : List Expr} {scope : Scope} {ow : List (Str × Nat)} {pos spos : Pos} {g : EM (List D)} {js : List Nat} {tg : D → Dl → Option Dl} {c : EM Bool} {e : EM D} (hc : X.calm = true) (hN : X.N.Nodup) (hy : X.N[i]? = some y) (hyl : X.env.scope.names.lookup y = some .local)
    (hsw : swapsWith (.ListComp elt [⟨tgt, iter, ifs, 0⟩] scope pos) (some (.Name y py)) spos.line X.env = pure true) (hi : DI X W tgt iter g) (ok : BlkOk X.N X.env.scope scope ow) (hj : ∀ j ∈ js, j ∈ ow.map (·.2))
    (hg : ∀ (s : Shared) (H : Hp) (Cc : Addr) (cl : List (Str × Addr)) (fp : List Addr), DG (X.blk s H scope (compEnvC scope cl Cc X.env) fp) tgt js tg)
    (ht : ∀ (s : Shared) (H : Hp) (Cc : Addr) (cl : List (Str × Addr)) (fp : List Addr), DTs (X.blk s H scope (compEnvC scope cl Cc X.env) fp) W0 ifs c)
    (he : ∀ (s : Shared) (H : Hp) (Cc : Addr) (cl : List (Str × Addr)) (fp : List Addr), DE (X.blk s H scope (compEnvC scope cl Cc X.env) fp) W0 elt e) (hs : ∀ x, foldedSetIterable iter X.env x = pure x := by intro _; rfl) :
    DS X W own (.Assign [.Name y py] (.ListComp elt [⟨tgt, iter, ifs, 0⟩] scope pos) spos) (sSet i (eComp g tg c e (ow.map (·.2)))) := by
  refine ps_imp (ps_setLc (wi := tI X.K W g) (g := tG X.K js tg) (tt := tT X.K W0 c) (te := tD X.K W0 e) hc hN hy hyl hsw hi ok hg ht he hs) fun E σ H hq => ?_
  refine redLc (W := W) hj σ H _ (redFrz eComp_lst σ H _ ?_)
  obtain ⟨C, l, rw, G, S, hp⟩ := hq
  exact seqD (P := PSq X.K W own C E) S hp (fun x w z H' G' S' => z l σ H' G' S') (fun z => z) fun d rw1 v H1 G1 S1 s1 r1 h1 => h1 _ H1 G1 (S1.setV r1)
theorem ds_setLcO {i : Nat} {y : Str} {py : Pos} {elt tgt iter : Expr} {ifs : List Expr} {scope : Scope} {ow : List (Str × Nat)} {pos spos : Pos} {g : EM (List D)} {js : List Nat} {tg : D → Dl → Option Dl} {c : EM Bool} {e : EM D} (hc : X.calm = true) (hN : X.N.Nodup) (hy : X.N[i]? = some y) (hyl : X.env.scope.names.lookup y = some .local)
    (hsw : swapsWith (.ListComp elt [⟨tgt, iter, ifs, 0⟩] scope pos) (some (.Name y py)) spos.line X.env = pure true) (hi : DI X W tgt iter g) (ok : BlkOk X.N X.env.scope scope ow) (hj : ∀ j ∈ js, j ∈ ow.map (·.2))
    (hg : ∀ (s : Shared) (H : Hp) (Cc : Addr) (cl : List (Str × Addr)) (fp : List Addr), DG (X.blk s H scope (compEnvC scope cl Cc X.env) fp) tgt js tg)
    (ht : ∀ (s : Shared) (H : Hp) (Cc : Addr) (cl : List (Str × Addr)) (fp : List Addr), DTs (X.blk s H scope (compEnvC scope cl Cc X.env) fp) W0 ifs c)
    (he : ∀ (s : Shared) (H : Hp) (Cc : Addr) (cl : List (Str × Addr)) (fp : List Addr), DE (X.blk s H scope (compEnvC scope cl Cc X.env) fp) W0 elt e) (hs : ∀ x, foldedSetIterable iter X.env x = pure x := by intro _; rfl) :
    DS X W own (.Assign [.Name y py] (.ListComp elt [⟨tgt, iter, ifs, 0⟩] scope pos) spos) (sSetO i (eComp g tg c e (ow.map (·.2)))) := by
  refine ps_imp (ps_setLc (wi := tI X.K W g) (g := tG X.K js tg) (tt := tT X.K W0 c) (te := tD X.K W0 e) hc hN hy hyl hsw hi ok hg ht he hs) fun E σ H hq => ?_
  refine redLc (W := W) hj σ H _ ?_
  obtain ⟨C, l, rw, G, S, hp⟩ := hq
  exact seqO (P := PSq X.K W own C E) S hp (fun x w z H' G' S' => z l σ H' G' S') (fun z => z) fun d rw1 p H1 G1 S1 s1 f r1 h1 => h1 _ H1 G1 (S1.setO r1 fun j e _ hj hz => S.ownNe f j e hj hz)

/-! ### an own thing changed by a method -/
def tyD : D → String → Bool
  | .lst _, T => T == "list"
  | .dic _ _, T => T == "dict"
  | _, _ => false
def sMut (T : String) (i : Nat) (f : D → List D → Option D) (g : EM (List D)) : SM := fun l rw => match l[i]? with
  | some (.own d) => if tyD d T = true then (g l rw).bind fun p => (match f d p.1 with
    | some d' => .ok (.next, l.set i (.own d'), p.2)
    | none => .stuck) else .stuck
  | _ => .stuck
/-- target = own.method(..) -/
def sMutG (T : String) (i : Nat) (f : D → List D → Option (D × D)) (g : EM (List D)) (tg : D → Dl → Option Dl) : SM := fun l rw => match l[i]? with
  | some (.own d) => if tyD d T = true then (g l rw).bind fun p => (match f d p.1 with
    | some q => (match tg q.2 (l.set i (.own q.1)) with
      | some l' => .ok (.next, l', p.2)
      | none => .stuck)
    | none => .stuck) else .stuck
  | _ => .stuck
def MutD (K : PySem.W.Frag) (r : V → List V → Hp → VK → Prop) (f : D → List D → Option D) : Prop := ∀ (o : Option Addr) (G H : Hp) (d : D) (ds : List D) (p : Addr) (ob : HO) (vs : List V) (d' : D) (Q : VK), Same G H → H p = some ob → ObjD K o G d ob → Reps K o G ds vs → f d ds = some d' →
  isLD d' = true ∧ ((∀ ob', ObjD K o G d' ob' → Q .non (upd H p ob')) → r (.ref p) vs H Q)
def MutG (K : PySem.W.Frag) (r : V → List V → Hp → VK → Prop) (f : D → List D → Option (D × D)) : Prop := ∀ (o : Option Addr) (G H : Hp) (d : D) (ds : List D) (p : Addr) (ob : HO) (vs : List V) (q : D × D) (Q : VK), Same G H → H p = some ob → ObjD K o G d ob → Reps K o G ds vs → f d ds = some q →
  isLD q.1 = true ∧ ((∀ v ob', Rep K o G q.2 v → ObjD K o G q.1 ob' → Q v (upd H p ob')) → r (.ref p) vs H Q)
theorem tyD_ok {K : PySem.W.Frag} {o : Option Addr} {G H : Hp} {p : Addr} {d : D} {ob : HO} {T : String} (h : H p = some ob) (hob : ObjD K o G d ob) (ht : tyD d T = true) : tyV K T (.ref p) H := by
  cases d with
  | lst ds =>
    obtain ⟨vs, rfl, _⟩ := hob
    have e : T = "list" := by simpa [tyD] using ht
    subst e
    exact .inl ⟨rfl, _, .inl (.inl h)⟩
  | dic ks ds =>
    obtain ⟨kvs, vs, rfl, _⟩ := hob
    have e : T = "dict" := by simpa [tyD] using ht
    subst e
    exact .inr (.inr (.inl ⟨rfl, .inl ⟨kvs, h⟩⟩))
  | _ => cases ht
theorem ds_mut {i : Nat} {st : Stmt} {T : String} {r : V → List V → Hp → VK → Prop} {f : D → List D → Option D} {g : EM (List D)} (hst : PS X st (tDrop (tBM X.K T r (tVar i) (tA X.K W g)))) (hf : MutD X.K r f) : DS X W own st (sMut T i f g) := by
  refine ps_imp hst fun E σ H hq => ?_
  obtain ⟨C, l, rw, G, S, hp⟩ := hq
  unfold sMut at hp
  cases e0 : l[i]? with
  | none => rw [e0] at hp; exact hp.elim
  | some x =>
    rw [e0] at hp
    cases x with
    | no => exact hp.elim
    | val d => exact hp.elim
    | own d =>
      dsimp only at hp
      by_cases ht : tyD d T = true
      case neg => rw [if_neg ht] at hp; exact hp.elim
      rw [if_pos ht] at hp
      obtain ⟨p, e1, ow⟩ := S.ownAt e0
      obtain ⟨o, ho, hob, _⟩ := ow.obj
      refine ⟨.ref p, e1, tyD_ok ho hob ht, ?_⟩
      refine seqA (P := PSq X.K W own C E) S hp (fun x w z H' G' S' => z l σ H' G' S') (fun z => z) fun ds rw1 vs H1 G1 S1 s1 r1 h1 => ?_
      dsimp only [PSq] at h1
      cases q : f d ds with
      | none => rw [q] at h1; exact h1.elim
      | some d' =>
        rw [q] at h1
        obtain ⟨p', e1', ow1⟩ := S1.ownAt e0
        rw [e1] at e1'; cases e1'
        obtain ⟨o1, ho1, hob1, _⟩ := ow1.obj
        obtain ⟨hd', k⟩ := hf C.r G1 H1 d ds p o1 vs d' _ S1.sub ho1 hob1 r1 q
        exact k fun ob' hob' => h1 σ _ G1 (S1.mutAt e0 e1 hd' hob')
theorem ds_mutG {i : Nat} {tgt e : Expr} {pos : Pos} {T : String} {r : V → List V → Hp → VK → Prop} {f : D → List D → Option (D × D)} {g : EM (List D)} {js : List Nat} {tg : D → Dl → Option Dl} (hst : PS X (.Assign [tgt] e pos) (tAsg (tBM X.K T r (tVar i) (tA X.K W g)) (tG X.K js tg))) (hf : MutG X.K r f) : DS X W own (.Assign [tgt] e pos) (sMutG T i f g tg) := by
  refine ps_imp hst fun E σ H hq => ?_
  obtain ⟨C, l, rw, G, S, hp⟩ := hq
  unfold sMutG at hp
  cases e0 : l[i]? with
  | none => rw [e0] at hp; exact hp.elim
  | some x =>
    rw [e0] at hp
    cases x with
    | no => exact hp.elim
    | val d => exact hp.elim
    | own d =>
      dsimp only at hp
      by_cases ht : tyD d T = true
      case neg => rw [if_neg ht] at hp; exact hp.elim
      rw [if_pos ht] at hp
      obtain ⟨p, e1, ow⟩ := S.ownAt e0
      obtain ⟨o, ho, hob, _⟩ := ow.obj
      refine ⟨.ref p, e1, tyD_ok ho hob ht, ?_⟩
      refine seqA (P := PSq X.K W own C E) S hp (fun x w z H' G' S' => z l σ H' G' S') (fun z => z) fun ds rw1 vs H1 G1 S1 s1 r1 h1 => ?_
      dsimp only [PSq] at h1
      cases q : f d ds with
      | none => rw [q] at h1; exact h1.elim
      | some d' =>
        rw [q] at h1
        dsimp only at h1
        cases q2 : tg d'.2 (l.set i (.own d'.1)) with
        | none => rw [q2] at h1; exact h1.elim
        | some l' =>
          rw [q2] at h1
          obtain ⟨p', e1', ow1⟩ := S1.ownAt e0
          rw [e1] at e1'; cases e1'
          obtain ⟨o1, ho1, hob1, _⟩ := ow1.obj
          obtain ⟨hd', k⟩ := hf C.r G1 H1 d ds p o1 vs d' (fun x H2 => tG X.K js tg x σ H2 E.nx) S1.sub ho1 hob1 r1 q
          exact k fun v ob' rv hob' => ⟨C, _, rw1, G1, d'.2, l', S1.mutAt e0 e1 hd' hob', rv, q2, fun σ' S' _ => h1 σ' _ G1 S'⟩
/-! the methods -/
def fAppend : D → List D → Option D
  | .lst ds, [d] => if ds.length < sizeLine then some (.lst (ds ++ [d])) else none
  | _, _ => none
theorem mut_append {K : PySem.W.Frag} : MutD K rAppend fAppend := by
  intro o G H d ds p ob vs d' Q s hp hob rv e
  unfold fAppend at e
  split at e
  case h_2 => cases e
  case h_1 xs y =>
    obtain ⟨us, rfl, h1, h2⟩ := hob
    unfold Reps at rv
    obtain ⟨v, t, rfl, r1, r2⟩ := rv
    unfold Reps at r2
    subst r2
    split at e
    case isFalse => cases e
    case isTrue hl =>
      cases e
      refine ⟨rfl, fun k => ⟨p, us, v, rfl, rfl, hp, by rw [← h2.length]; exact hl, k _ ⟨_, rfl, ?_, h2.append (Reps.cons r1 Reps.nil)⟩⟩⟩
      rw [List.length_append, List.length_singleton, ← h2.length]; omega
def fPop0 : D → List D → Option (D × D)
  | .lst (d :: ds), [.int 0] => some (.lst ds, d)
  | _, _ => none
theorem mut_pop0 {K : PySem.W.Frag} : MutG K rPopAt fPop0 := by
  intro o G H d ds p ob vs q Q s hp hob rv e
  unfold fPop0 at e
  split at e
  case h_2 => cases e
  case h_1 x xs =>
    cases e
    obtain ⟨us, rfl, h1, h2⟩ := hob
    have ev : vs = [.int 0] := Reps.ints (ns := [0]) rv
    subst ev
    unfold Reps at h2
    obtain ⟨v, t, rfl, r1, r2⟩ := h2
    refine ⟨rfl, fun k => ⟨p, v :: t, 0, 0, v, rfl, rfl, hp, by decide, by decide, ?_, rfl, ?_⟩⟩
    · unfold seqIndex?
      simp
    · exact k v _ r1 ⟨t, rfl, by simp at h1; omega, r2⟩
def fExtend : D → List D → Option D
  | .lst ds, [.lst es] => if ds.length + es.length ≤ sizeLine then some (.lst (ds ++ es)) else none
  | _, _ => none
theorem mut_extend {K : PySem.W.Frag} : MutD K rExtend fExtend := by
  intro o G H d ds p ob vs d' Q s hp hob rv e
  unfold fExtend at e
  split at e
  case h_2 => cases e
  case h_1 xs ys =>
    obtain ⟨us, rfl, h1, h2⟩ := hob
    unfold Reps at rv
    obtain ⟨v, t, rfl, r1, r2⟩ := rv
    unfold Reps at r2
    subst r2
    unfold Rep at r1
    obtain ⟨a, ws, rfl, g1, g2, g3⟩ := r1
    split at e
    case isFalse => cases e
    case isTrue hl =>
      cases e
      refine ⟨rfl, fun k => ⟨p, a, us, ws, rfl, rfl, hp, s _ _ g1, by rw [← h2.length, ← g3.length]; exact hl, k _ ⟨_, rfl, ?_, h2.append g3⟩⟩⟩
      rw [List.length_append, ← h2.length, ← g3.length]; exact hl

/-! ### an own thing looked at -/
def isSc : D → Bool
  | .non => true
  | .bl _ => true
  | .int _ => true
  | .str _ => true
  | _ => false
/-- the thing at i as a value for one look; what is told is a number, a text, a truth value, None -/
def eBor (i : Nat) (g : EM D) : EM D := fun l rw => match l[i]? with
  | some (.own (.lst ds)) => (noX (g (l.set i (.val (.lst ds))) rw)).bind fun p => if isSc p.1 = true then .ok p else .stuck
  | _ => .stuck
def tBor (i : Nat) (g : EM Bool) : EM Bool := fun l rw => match l[i]? with
  | some (.own (.lst ds)) => noX (g (l.set i (.val (.lst ds))) rw)
  | _ => .stuck
theorem sc_rep {K : PySem.W.Frag} {o : Option Addr} {G G' : Hp} {d : D} {v : V} (h : isSc d = true) (r : Rep K o G d v) : Rep K o G' d v := by
  cases d <;> first | (unfold Rep at r ⊢; exact r) | (cases h)
section
variable {K : PySem.W.Frag} {C : C0} {l : Dl} {rw rw' : Rw} {σ : St} {H G H' G' : Hp} {d : D} {o : HO} {p : Addr} {i : Nat}
theorem SR.lend (S : SR K C l rw σ H G) (e0 : l[i]? = some (.own d)) (hd : isDic d = false) : ∃ p o, σ[i]? = some (some (.ref p)) ∧ H p = some o ∧ G p = none ∧ C.r ≠ some p ∧ (∀ ob u, o ≠ .frz ob u) ∧ nTb o ∧ SR K C (l.set i (.val d)) rw σ H (upd G p o) := by
  obtain ⟨p, e1, ow⟩ := S.ownAt e0
  obtain ⟨o, ho, hob, hg, h0, hr, _, hf⟩ := ow.obj
  have S1 : SR K C (l.set i .no) rw σ H G := S.forget
  have nx : ∀ (j : Nat) e, (l.set i .no)[j]? = some (.own e) → σ[j]? ≠ some (some (.ref p)) := fun j e' hj hz => by
    by_cases h : i = j
    · subst h
      have hi : i < l.length := by have := (List.getElem?_eq_some_iff.mp hj).1; simpa using this
      rw [List.getElem?_set_self hi] at hj; cases hj
    · rw [List.getElem?_set_ne h] at hj
      exact S.ow i j d e' p h e0 hj e1 hz
  have S2 := (S1.freeze ho (fun ps z => ow.nTb (ho := ho) (.inl ⟨ps, z⟩)) hg h0 hr nx).setV (i := i) (hob.rep hg hd)
  rw [List.set_set] at S2
  have es : σ.set i (some (.ref p)) = σ := by
    refine List.ext_getElem? fun j => ?_
    by_cases h : i = j
    · subst h; rw [List.getElem?_set_self (List.getElem?_eq_some_iff.mp e1).1, e1]
    · rw [List.getElem?_set_ne h]
  rw [es] at S2
  exact ⟨p, o, e1, ho, hg, hr, hf, fun ps z => ow.nTb (ho := ho) (.inl ⟨ps, z⟩), S2⟩
def hide (G : Hp) (p : Addr) : Hp := fun a => if a = p then none else G a
theorem SR.back (S : SR K C l rw σ H G) (e0 : l[i]? = some (.own d)) (e1 : σ[i]? = some (some (.ref p))) (ho : H p = some o) (hg : G p = none) (hr : C.r ≠ some p) (hf : ∀ ob u, o ≠ .frz ob u) (nt : nTb o) (S' : SR K C (l.set i (.val d)) rw' σ H' G') (g : Gr K C.r H (upd G p o) H' G') :
    Gr K C.r H G H' (hide G' p) ∧ SR K C l rw' σ H' (hide G' p) := by
  have g' : Gr K C.r H G H' (hide G' p) := by
    refine ⟨g.h, fun a u e => ?_, fun a u e => ?_, fun a u e => ?_, g.t, g.tb⟩
    · have ne : a ≠ p := ne_of_none e hg
      unfold hide
      rw [if_neg ne]
      exact g.g a u (by rw [upd_ne ne]; exact e)
    · unfold hide at e
      by_cases ne : a = p
      · rw [if_pos ne] at e; cases e
      · rw [if_neg ne] at e
        rcases g.n a u e with z | z
        · rw [upd_ne ne] at z; exact .inl z
        · exact .inr z
    · unfold hide at e
      by_cases ne : a = p
      · rw [if_pos ne] at e; cases e
      · rw [if_neg ne] at e; exact g.s a u e
  refine ⟨g', S.grow g' ?_⟩
  have w := S'.row
  unfold RowOk at w ⊢
  cases e : C.r with
  | none => rw [e] at w; cases rw' <;> exact w
  | some a =>
    rw [e] at w
    cases rw' with
    | none => exact w
    | some x =>
      obtain ⟨w1, v, w2, w3⟩ := w
      refine ⟨?_, v, w2, ?_⟩
      · unfold hide; split <;> first | rfl | exact w1
      · unfold Rep at w3 ⊢
        obtain ⟨b, rfl, w4, w5⟩ := w3
        refine ⟨b, rfl, w4.imp (fun ⟨ob, q⟩ => ⟨ob, ?_⟩) id, w5⟩
        have ne : b ≠ p := fun z => by
          subst z
          have := g.h b o ho hr nt
          have q2 := S'.sub _ _ q
          rw [this] at q2
          exact hf _ _ (Option.some.inj q2)
        unfold hide
        rw [if_neg ne]
        exact q
end
theorem de_bor {i : Nat} {e : Expr} {g : EM D} (h : DE X W e g) : DE X W e (eBor i g) := by
  refine pe_imp h fun σ H Q hq => ?_
  obtain ⟨C, l, rw, G, S, hp⟩ := hq
  unfold eBor at hp
  cases e0 : l[i]? with
  | none => rw [e0] at hp; exact hp.elim
  | some x =>
    rw [e0] at hp
    cases x with
    | no => exact hp.elim
    | val d => exact hp.elim
    | own d =>
      cases d <;> first | exact hp.elim | skip
      rename_i ds
      have hd : isDic (.lst ds) = false := rfl
      dsimp only at hp
      obtain ⟨p, o, e1, ho, hg, hr, hf, nt, S1⟩ := S.lend e0 hd
      refine ⟨C, _, rw, _, S1, ?_⟩
      cases e2 : g (l.set i (.val (.lst ds))) rw with
      | exc x w => rw [e2] at hp; exact hp.elim
      | stuck => rw [e2] at hp; exact hp.elim
      | ok q =>
        obtain ⟨r, rw'⟩ := q
        rw [e2] at hp
        intro v H' G' S' g' rv
        replace hp : EPost X.K W C l σ H G (if isSc r = true then .ok (r, rw') else .stuck) Q := hp
        by_cases hs : isSc r = true
        · rw [if_pos hs] at hp
          obtain ⟨g2, S2⟩ := S.back e0 e1 ho hg hr hf nt S' g'
          exact hp v H' _ S2 g2 (sc_rep hs rv)
        · rw [if_neg hs] at hp; exact hp.elim
theorem dt_bor {i : Nat} {e : Expr} {g : EM Bool} (h : DT X W e g) : DT X W e (tBor i g) := by
  refine pt_imp h fun σ H Q hq => ?_
  obtain ⟨C, l, rw, G, S, hp⟩ := hq
  unfold tBor at hp
  cases e0 : l[i]? with
  | none => rw [e0] at hp; exact hp.elim
  | some x =>
    rw [e0] at hp
    cases x with
    | no => exact hp.elim
    | val d => exact hp.elim
    | own d =>
      cases d <;> first | exact hp.elim | skip
      rename_i ds
      have hd : isDic (.lst ds) = false := rfl
      dsimp only at hp
      obtain ⟨p, o, e1, ho, hg, hr, hf, nt, S1⟩ := S.lend e0 hd
      refine ⟨C, _, rw, _, S1, ?_⟩
      cases e2 : g (l.set i (.val (.lst ds))) rw with
      | exc x w => rw [e2] at hp; exact hp.elim
      | stuck => rw [e2] at hp; exact hp.elim
      | ok q =>
        obtain ⟨r, rw'⟩ := q
        rw [e2] at hp
        intro H' G' S' g'
        obtain ⟨g2, S2⟩ := S.back e0 e1 ho hg hr hf nt S' g'
        exact hp H' _ S2 g2
/-! tuple(own), list(own), own + .. -/
def eTupO (i : Nat) : EM D := fun l rw => match l[i]? with
  | some (.own (.lst ds)) => .ok (.tup ds, rw)
  | _ => .stuck
theorem de_tupO {i : Nat} {e : Expr} (h : PE X e (tCB (fun xs H Q => ∃ p ys, xs = [.ref p] ∧ ((SqL X.K H p ys ∧ ∀ l, H l = none → Q (.ref l) (upd H l (.tup ys))) ∨ (SqT X.K H p ys ∧ Q (.ref p) H))) (tCons (tVar i) tNil))) : DE X W e (eTupO i) := by
  refine pe_imp h fun σ H Q hq => ?_
  obtain ⟨C, l, rw, G, S, hp⟩ := hq
  unfold eTupO at hp
  split at hp
  case h_2 => exact hp.elim
  case h_1 ds e0 =>
    obtain ⟨p, e1, q, e2, hg, h0, hr, vs, a1, a2, a3⟩ := S.ownAt e0
    cases e2
    refine ⟨_, e1, p, vs, rfl, .inl ⟨.of a1, fun t ht => ?_⟩⟩
    exact hp (.ref t) _ _ (S.new ht) (Gr.new S.sub ht) (ObjD.rep (d := .tup ds) ⟨vs, rfl, a2, a3⟩ (S.gnone ht))
/-- own + list -/
def eCatO (i : Nat) (g : EM D) : EM D := fun l rw => match l[i]? with
  | some (.own (.lst ds)) => (g l rw).bind fun p => (match p.1 with
    | .lst es => if ds.length + es.length ≤ sizeLine then .ok (.lst (ds ++ es), p.2) else .stuck
    | _ => .stuck)
  | _ => .stuck
theorem de_catO {i : Nat} {e : Expr} {g : EM D} (h : PE X e (tOp rCat (tVar i) (tD X.K W g))) : DE X W e (eCatO i g) := by
  refine pe_imp h fun σ H Q hq => ?_
  obtain ⟨C, l, rw, G, S, hp⟩ := hq
  unfold eCatO at hp
  split at hp
  case h_2 => exact hp.elim
  case h_1 ds e0 =>
    obtain ⟨p, e1, _⟩ := S.ownAt e0
    refine ⟨_, e1, ?_⟩
    refine seqD (P := PEq X.K W C l σ H G Q) S hp (fun _ _ z => z) (fun z => z) fun d1 rw1 v1 H1 G1 S1 s1 r1 h1 => ?_
    obtain ⟨p', e1', q, e2, hg, h0, hr, vs, a1, a2, a3⟩ := S1.ownAt e0
    rw [e1] at e1'; cases e1'; cases e2
    dsimp only [PEq] at h1
    cases d1 with
    | lst es =>
      dsimp only at h1
      unfold Rep at r1
      obtain ⟨a, us, rfl, b1, b2, b3⟩ := r1
      by_cases hz : ds.length + es.length ≤ sizeLine
      · rw [if_pos hz] at h1
        have hz' : vs.length + us.length ≤ sizeLine := by rw [← a3.length, ← b3.length]; exact hz
        refine ⟨p, a, vs, us, rfl, rfl, a1, S1.sub _ _ b1, hz', fun t ht => ?_⟩
        exact h1 (.ref t) _ _ (S1.new ht) (s1.trans (Gr.new S1.sub ht)) (ObjD.rep (d := .lst (ds ++ es)) ⟨vs ++ us, rfl, by rw [List.length_append]; exact hz', a3.append b3⟩ (S1.gnone ht))
      · rw [if_neg hz] at h1; exact h1.elim
    | _ => exact h1.elim

/-! ### the row -/
/-- row[0], row[1], row[2] -/
def eRow (k : Nat) (i : Nat) : EM D := fun l rw => match l[i]?, rw with
  | some (.val .row), some w => (match k with
    | 0 => .ok (.scr w.ns, rw)
    | 1 => .ok (.int w.ix, rw)
    | 2 => .ok (.int w.mx, rw)
    | _ => .stuck)
  | _, _ => .stuck
theorem de_row {i k : Nat} {e : Expr} (h : PE X e (tOp (rIxL X.K) (tVar i) (tC (.int (k : Int))))) : DE X W e (eRow k i) := by
  refine pe_imp h fun σ H Q hq => ?_
  obtain ⟨C, l, rw, G, S, hp⟩ := hq
  unfold eRow at hp
  cases e0 : l[i]? with
  | none => rw [e0] at hp; exact hp.elim
  | some x =>
    rw [e0] at hp
    cases x with
    | no => exact hp.elim
    | own d => exact hp.elim
    | val d =>
      cases d with
      | row =>
        cases rw with
        | none => exact hp.elim
        | some w =>
          dsimp only at hp
          obtain ⟨v, e1, u, e2, r⟩ := S.sl i _ e0
          subst e2
          unfold Rep at r
          obtain ⟨a, ea, rfl⟩ := r
          have wr := S.row
          unfold RowOk at wr
          rw [ea] at wr
          obtain ⟨w1, v, w2, w3⟩ := wr
          refine ⟨_, e1, a, _, k, ?_, rfl, rfl, .of w2, ?_⟩
          · exact match k with
              | 0 => v
              | 1 => .int w.ix
              | _ => .int w.mx
          · match k, hp with
            | 0, hp => exact ⟨atI_nat rfl, hp v H G S (Gr.refl S.sub) (by rw [ea]; exact w3)⟩
            | 1, hp => exact ⟨atI_nat rfl, hp _ H G S (Gr.refl S.sub) (by unfold Rep; rfl)⟩
            | 2, hp => exact ⟨atI_nat rfl, hp _ H G S (Gr.refl S.sub) (by unfold Rep; rfl)⟩
            | k + 3, hp => exact hp.elim
      | _ => exact hp.elim
/-- row[1] = .., row[2] = .. -/
def sRow (k : Nat) (i : Nat) (g : EM D) : SM := fun l rw => (g l rw).bind fun p => match l[i]?, p.2, p.1 with
  | some (.val .row), some w, .int z => (match k with
    | 1 => .ok (.next, l, some { w with ix := z })
    | 2 => .ok (.next, l, some { w with mx := z })
    | _ => .stuck)
  | _, _, _ => .stuck
theorem ds_row {i k : Nat} {st : Stmt} {g : EM D} (h : PS X st (tAsg (tD X.K W g) (gSub (tVar i) (tC (.int (k : Int))) rSetL))) : DS X W own st (sRow k i g) := by
  refine ps_imp h fun E σ H hq => ?_
  obtain ⟨C, l, rw, G, S, hp⟩ := hq
  refine seqD (P := PSq X.K W own C E) S hp (fun x w z H' G' S' => z l σ H' G' S') (fun z => z) fun d rw1 v H1 G1 S1 s1 r1 h1 => ?_
  dsimp only [PSq] at h1
  cases e0 : l[i]? with
  | none => rw [e0] at h1; exact h1.elim
  | some x =>
    rw [e0] at h1
    cases x with
    | no => exact h1.elim
    | own d => exact h1.elim
    | val d0 =>
      cases d0 with
      | row =>
        cases rw1 with
        | none => exact h1.elim
        | some w =>
          cases d with
          | int z =>
            dsimp only at h1
            unfold Rep at r1
            subst r1
            obtain ⟨v, e1, u, e2, r⟩ := S1.sl i _ e0
            subst e2
            unfold Rep at r
            obtain ⟨a, ea, rfl⟩ := r
            have wr := S1.row
            unfold RowOk at wr
            rw [ea] at wr
            obtain ⟨w1, v, w2, w3⟩ := wr
            have key : ∀ ix mx, SR X.K C l (some ⟨w.ns, ix, mx⟩) σ (upd H1 a (.lst [v, .int ix, .int mx])) G1 := fun ix mx => by
              refine S1.grow ⟨fun b o e ne _ => ?_, Same.refl _, fun b o e => .inl e, fun b o e => ?_, fun b o e => ?_, TabR.put fun u e => by rw [w2] at e; cases e; exact nTE_lst⟩ ?_
              · rw [upd_ne (fun z => ne (by rw [ea, z]))]; exact e
              · rw [upd_ne (ne_of_none e w1)]; exact S1.sub _ _ e
              · by_cases hb : b = a
                · subst hb; exact ⟨_, upd_same⟩
                · exact ⟨o, by rw [upd_ne hb]; exact e⟩
              · unfold RowOk
                rw [ea]
                exact ⟨w1, v, upd_same, w3⟩
            match k, h1 with
            | 1, h1 => exact ⟨_, e1, a, _, 1, 1, rfl, rfl, w2, rfl, h1 σ _ _ (key z w.mx)⟩
            | 2, h1 => exact ⟨_, e1, a, _, 2, 2, rfl, rfl, w2, rfl, h1 σ _ _ (key w.ix z)⟩
            | 0, h1 => exact h1.elim
            | k + 3, h1 => exact h1.elim
          | _ => exact h1.elim
      | _ => exact h1.elim
end
end HD
end
section
/-! The data layer: defs and their calls. -/
namespace HD
open PySem PySem.Spec L2
open PyProof.Rows hiding St

/-- what a def tells of given trees: n parameters, m names -/
def dDef (own : Bool) (n m : Nat) (body : SM) : FD := fun ds rw => if ds.length = n then (body (ds.map .val ++ List.replicate (m - n) .no) rw).bind fun p => match p.1 with
  | .ret d => .ok (d, p.2.2)
  | .next => if own = true then .stuck else .ok (.non, p.2.2)
  | _ => .stuck else .stuck
def FRet (K : PySem.W.Frag) (own : Bool) (r : Option Addr) (H H' G' : Hp) (d : D) (v : V) : Prop :=
  if own = true then ∃ p o, v = .ref p ∧ H p = none ∧ H' p = some o ∧ G' p = none ∧ ObjD K r G' d o ∧ isLD d = true else Rep K r G' d v
/-- the tables, the row -/
structure RowT (K : PySem.W.Frag) (r : Option Addr) (rw : Rw) (H G : Hp) : Prop where
  t : LamX.Tabs (tabT K) H
  w : RowOk K r rw H G
  g : ∀ a o, G a = some o → nTb o
/-- how an exception is wished for -/
abbrev XW := XK → Exn → Hp → Prop
abbrev XW0 : XW := fun _ _ _ => False
def FPost (K : PySem.W.Frag) (own : Bool) (xw : XW) (r : Option Addr) (H G : Hp) (q : R (D × Rw)) (Q : VK) (E : XK) : Prop :=
  match q with
  | .ok (d, rw') => ∀ v H' G', Gr K r H G H' G' → RowT K r rw' H' G' → FRet K own r H H' G' d v → Q v H'
  | .exc x rw' => ∀ H' G', Gr K r H G H' G' → RowT K r rw' H' G' → xw E x H'
  | .stuck => False
def spD (K : PySem.W.Frag) (own : Bool) (xw : XW) (F : FD) : Sp := fun vs H Q E => ∃ r G ds rw, Same G H ∧ Reps K r G ds vs ∧ RowT K r rw H G ∧ FPost K own xw r H G (F ds rw) Q E

theorem SR.start {K : PySem.W.Frag} {r : Option Addr} {G H : Hp} {ds : List D} {vs : List V} {rw : Rw} {N : List Str} {n : Nat} (s : Same G H) (q : Reps K r G ds vs) (w : RowT K r rw H G) (hn : ds.length = n) : SR K ⟨r, H, G⟩ (ds.map .val ++ List.replicate (N.length - n) .no) rw (start N vs) H G := by
  have hl := q.length
  have lookup : ∀ (i : Nat) x, (ds.map Sl.val ++ List.replicate (N.length - n) Sl.no)[i]? = some x → (∃ d, ds[i]? = some d ∧ x = .val d) ∨ (x = .no ∧ ds.length ≤ i ∧ i - ds.length < N.length - n) := fun i x e => by
    by_cases h : i < ds.length
    · rw [List.getElem?_append_left (by simpa using h), List.getElem?_map, List.getElem?_eq_getElem h] at e
      cases e
      exact .inl ⟨_, List.getElem?_eq_getElem h, rfl⟩
    · rw [List.getElem?_append_right (by simpa using h), List.getElem?_replicate] at e
      split at e
      · cases e
        rename_i hlt
        exact .inr ⟨rfl, by omega, by simpa using hlt⟩
      · cases e
  refine ⟨s, fun a o e _ _ => e, fun a o e => ⟨o, e⟩, w.t, Same.refl _, fun a o e => .inl e, w.g, ?_, fun i x e => ?_, fun i j d e p hij hi hj _ => ?_, w.w⟩
  · unfold L2.start
    simp
    omega
  · rcases lookup i x e with ⟨d, hd, rfl⟩ | ⟨rfl, h1, h2⟩
    · obtain ⟨v, hv, rv⟩ := q.get hd
      refine ⟨some v, ?_, v, rfl, rv⟩
      unfold L2.start
      rw [List.getElem?_append_left (by rw [List.length_map]; exact (List.getElem?_eq_some_iff.mp hv).1), List.getElem?_map, hv]
      rfl
    · refine ⟨none, ?_, trivial⟩
      unfold L2.start
      rw [List.getElem?_append_right (by rw [List.length_map, ← hl]; exact h1), List.getElem?_replicate, if_pos]
      rw [List.length_map, ← hl, hn]
      omega
  · rcases lookup i _ hi with ⟨_, _, z⟩ | ⟨z, _⟩ <;> cases z
theorem SR.gr {K : PySem.W.Frag} {r : Option Addr} {G H H' G' : Hp} {l : Dl} {rw rw0 : Rw} {σ : St} (w0 : RowT K r rw0 H G) (S : SR K ⟨r, H, G⟩ l rw σ H' G') : Gr K r H G H' G' := by
  exact ⟨fun a o e ne nt => S.fr a o e ne nt, S.g0, fun a o e => (S.gn a o e).imp id fun z => ⟨z, S.gt a o e⟩, S.sub, fun a o e => S.ft a o e, fun _ => S.tabs⟩

section
variable {P : Program} {w : World} {K : PySem.W.Frag} {mg : Str → Option Value} {base : Heap} {x qual : Str} {params : Arguments} {body : List Stmt} {scope : Scope} {dvs : List V} {kws : List (Str × V)} {f : Addr} {fd : FuncData}
theorem own_fret {C : C0} {H H' G' : Hp} {own : Bool} {d : D} {v : V} (h0 : C.H0 = H) (r : RetRep K own C H' G' d v) : FRet K own C.r H H' G' d v := by
  subst h0
  unfold RetRep at r
  unfold FRet
  cases own with
  | false => exact r
  | true =>
    simp only [if_true] at r ⊢
    obtain ⟨p, rfl, _⟩ := id r
    obtain ⟨o, h1, h2, h3, h4, h5, h6, _⟩ := r.obj
    exact ⟨p, o, rfl, h4, h1, h3, h2, h6⟩
theorem sp_start {own : Bool} {n : Nat} {N : List Str} {den : SM} {xw : XW} {W : WD} {vs : List V} {H : Hp} {Q : VK} {E : XK} {t : TS} (ht : ∀ (E' : Ends) σ H', tS K W own den E' σ H' → t E' σ H') (hW : ∀ x σ H', (W x σ H' ↔ xw E x H'))
    (h : spD K own xw (dDef own n N.length den) vs H Q E) : t { nx := fun _ H' => Q .non H', rt := Q } (start N vs) H := by
  obtain ⟨r, G, ds, rw, s, q, wr, hp⟩ := h
  unfold dDef at hp
  by_cases hn : ds.length = n
  case neg => rw [if_neg hn] at hp; exact hp.elim
  rw [if_pos hn] at hp
  refine ht _ _ _ ⟨⟨r, H, G⟩, _, rw, G, SR.start s q wr hn, ?_⟩
  cases e : den (ds.map .val ++ List.replicate (N.length - n) .no) rw with
  | stuck => rw [e] at hp; exact hp.elim
  | exc x w => rw [e] at hp; exact fun l' σ' H' G' S' => (hW x σ' H').mpr (hp H' G' (S'.gr wr) ⟨S'.tabs, S'.row, S'.gt⟩)
  | ok p =>
    obtain ⟨fl, l', rw'⟩ := p
    rw [e] at hp
    cases fl with
    | brk => exact hp.elim
    | cont => exact hp.elim
    | ret d => exact fun v σ' H' G' S' rr => hp v H' G' (S'.gr wr) ⟨S'.tabs, S'.row, S'.gt⟩ (own_fret (C := ⟨r, H, G⟩) rfl rr)
    | next =>
      intro σ' H' G' S'
      cases own with
      | true => exact hp.elim
      | false => exact hp .non H' G' (S'.gr wr) ⟨S'.tabs, S'.row, S'.gt⟩ (by unfold FRet; rw [if_neg Bool.false_ne_true]; unfold Rep; rfl)
theorem sp_len {own : Bool} {n m : Nat} {den : SM} {xw : XW} {vs : List V} {H : Hp} {Q : VK} {E : XK} (h : spD K own xw (dDef own n m den) vs H Q E) : vs.length = n := by
  obtain ⟨r, G, ds, rw, s, q, wr, hp⟩ := h
  rw [← q.length]
  unfold dDef at hp
  by_cases hn : ds.length = n
  · exact hn
  · rw [if_neg hn] at hp; exact hp.elim
/-- a def that lets nothing out -/
theorem fn_den {own : Bool} {N ps : List Str} {k : Nat} {den : SM} (F : FunD K x qual params body scope dvs kws f fd) (S : FnScope N ps scope)
    (hb : ∀ (cdv : Value) (A : Around) (outer : List Env) (s : Shared) (H : Hp) (E : XK), Room k (A.deeper (envOfC qual scope s.heap.objs.size f cdv)) → DSs (cxOf (fun _ _ _ _ _ _ => False) P w K mg base N qual scope f cdv A outer s H E).nox W0 own body den) :
    FnOk P w K mg base (fun _ _ _ _ _ _ => False) (k + 1) f fd ps (spD K own XW0 (dDef own ps.length N.length den)) :=
  F.ok S (fun vs H Q E h => sp_len h) fun cdv A outer s H vs Q E hr h => ⟨_, PSs.nox (hb cdv A outer s H E hr), sp_start (fun _ _ _ z => z) (fun _ _ _ => Iff.rfl) h⟩
end

/-! ### calls -/
def eCall (F : FD) (g : EM (List D)) : EM D := fun l rw => (g l rw).bind fun p => F p.1 p.2
section
variable {X : Cx} {W : WD}
theorem redCall {F : FD} {g : EM (List D)} {xw : XW} {E : XK} (hx : ∀ x σ H, W x σ H → xw E x H) : ∀ σ H Q, tD X.K W (eCall F g) σ H Q → tCall (spD X.K false xw F) [] E (tA X.K W g) σ H Q := by
  intro σ H Q hq
  obtain ⟨C, l, rw, G, S, hp⟩ := hq
  refine seqA (P := PEq X.K W C l σ H G Q) S hp (fun _ _ z => z) (fun z => z) fun ds rw1 vs H1 G1 S1 s1 r1 h1 => ?_
  dsimp only [PEq] at h1
  refine ⟨C.r, G1, ds, rw1, S1.sub, by rw [List.append_nil]; exact r1, ⟨S1.tabs, S1.row, S1.gt⟩, ?_⟩
  cases e : F ds rw1 with
  | stuck => rw [e] at h1; exact h1.elim
  | exc x w =>
    rw [e] at h1
    exact fun H' G' g' w' => hx x σ H' (h1 H' G' (S1.grow g' w'.w))
  | ok p =>
    obtain ⟨d, rw'⟩ := p
    rw [e] at h1
    intro v H' G' g' w' rr
    unfold FRet at rr
    rw [if_neg Bool.false_ne_true] at rr
    exact h1 v H' G' (S1.grow g' w'.w) (s1.trans g') rr
theorem redCallO {F : FD} {g : EM (List D)} {xw : XW} {E : XK} (hx : ∀ x σ H, W x σ H → xw E x H) : ∀ σ H Q, tO X.K W (eCall F g) σ H Q → tCall (spD X.K true xw F) [] E (tA X.K W g) σ H Q := by
  intro σ H Q hq
  obtain ⟨C, l, rw, G, S, hp⟩ := hq
  refine seqA (P := POq X.K W C l σ H G Q) S hp (fun _ _ z => z) (fun z => z) fun ds rw1 vs H1 G1 S1 s1 r1 h1 => ?_
  dsimp only [POq] at h1
  refine ⟨C.r, G1, ds, rw1, S1.sub, by rw [List.append_nil]; exact r1, ⟨S1.tabs, S1.row, S1.gt⟩, ?_⟩
  cases e : F ds rw1 with
  | stuck => rw [e] at h1; exact h1.elim
  | exc x w =>
    rw [e] at h1
    exact fun H' G' g' w' => hx x σ H' (h1 H' G' (S1.grow g' w'.w))
  | ok p =>
    obtain ⟨d, rw'⟩ := p
    rw [e] at h1
    intro v H' G' g' w' rr
    unfold FRet at rr
    rw [if_pos rfl] at rr
    obtain ⟨p, o, rfl, hp1, ho, hg, hob, hd⟩ := rr
    obtain ⟨h0, hr⟩ := S1.h0none hp1
    refine h1 p H' G' (S1.grow g' w'.w) (s1.trans g') ?_ ⟨p, rfl, hg, h0, hr, ?_⟩
    · cases q : H p with
      | none => rfl
      | some o => obtain ⟨o', z⟩ := s1.t _ _ q; rw [hp1] at z; cases z
    · cases d with
      | lst ds => obtain ⟨vs, rfl, b1, b2⟩ := hob; exact ⟨vs, ho, b1, b2⟩
      | dic ks ds => obtain ⟨kvs, vs, rfl, b1, b2, b3, b4⟩ := hob; exact ⟨kvs, vs, ho, b1, b2, b3, b4⟩
      | _ => cases hd
section
variable {k : Nat} {f : Addr} {fd : FuncData} {ps : List Str} {F : FD} {x : Str} {p pos : Pos} {e : Expr} {es : List Expr} {g : EM (List D)}
/-- f(a, ..), a def that lets nothing out -/
theorem de_call (Fo : FnOk X.prog X.w X.K X.mg X.base (fun _ _ _ _ _ _ => False) k f fd ps (spD X.K false XW0 F)) (hr : Room k X.A) (hg : Gl X x) (hm : X.mg x = some (.ref f)) (hk : PySem.W.keepIn X.K (.ref f) = true) (hb : Binds X.K fd ps [])
    (ha : DA X W0 (e :: es) g) (hdb : (x == ("__debug__" : Str)) = false := by decide) (he : starEach (e :: es) X.env = (false, eval e X.env) :: starEach es X.env := by rfl) (hpl : (backTo pos (starEach es X.env)).any (·.1) = false := by rfl) :
    DE X W0 (.Call (.Name x p) (e :: es) [] pos) (eCall F g) := pe_imp (pe_call Fo hr hg hm hk hb .nil (E := fun _ _ _ => False) (fun _ _ _ _ _ _ _ h => h.elim) ha hdb he hpl) (redCall fun _ _ _ z => z)
theorem do_call (Fo : FnOk X.prog X.w X.K X.mg X.base (fun _ _ _ _ _ _ => False) k f fd ps (spD X.K true XW0 F)) (hr : Room k X.A) (hg : Gl X x) (hm : X.mg x = some (.ref f)) (hk : PySem.W.keepIn X.K (.ref f) = true) (hb : Binds X.K fd ps [])
    (ha : DA X W0 (e :: es) g) (hdb : (x == ("__debug__" : Str)) = false := by decide) (he : starEach (e :: es) X.env = (false, eval e X.env) :: starEach es X.env := by rfl) (hpl : (backTo pos (starEach es X.env)).any (·.1) = false := by rfl) :
    DO X W0 (.Call (.Name x p) (e :: es) [] pos) (eCall F g) := pe_imp (pe_call Fo hr hg hm hk hb .nil (E := fun _ _ _ => False) (fun _ _ _ _ _ _ _ h => h.elim) ha hdb he hpl) (redCallO fun _ _ _ z => z)
end
end
end HD
end
section
/-! The data layer: what operators and built-ins tell. -/
namespace HD
open PySem PySem.Spec L2
open PyProof.Rows hiding St

theorem OpD.or {K : PySem.W.Frag} {r r' : R2} {f g h : D → D → Option D} (hf : OpD K r f) (hg : OpD K r' g) (i : ∀ x y d, h x y = some d → f x y = some d ∨ g x y = some d) : OpD K (fun x y H Q => r x y H Q ∨ r' x y H Q) h := by
  intro o G H d1 d2 v1 v2 d Q s r1 r2 e q
  rcases i _ _ _ e with e | e
  · exact .inl (hf o G H d1 d2 v1 v2 d Q s r1 r2 e q)
  · exact .inr (hg o G H d1 d2 v1 v2 d Q s r1 r2 e q)
theorem CmpD.or {K : PySem.W.Frag} {r r' : R2} {f g h : D → D → Option D} (hf : CmpD K r f) (hg : CmpD K r' g) (i : ∀ x y d, h x y = some d → f x y = some d ∨ g x y = some d) : CmpD K (fun x y H Q => r x y H Q ∨ r' x y H Q) h := by
  intro o G H d1 d2 v1 v2 d Q s r1 r2 e q
  rcases i _ _ _ e with e | e
  · exact .inl (hf o G H d1 d2 v1 v2 d Q s r1 r2 e q)
  · exact .inr (hg o G H d1 d2 v1 v2 d Q s r1 r2 e q)
theorem OpD.imp {K : PySem.W.Frag} {r : R2} {f g : D → D → Option D} (h : OpD K r f) (i : ∀ x y d, g x y = some d → f x y = some d) : OpD K r g := fun o G H d1 d2 v1 v2 d Q s r1 r2 e q => h o G H d1 d2 v1 v2 d Q s r1 r2 (i _ _ _ e) q

/-! ### arithmetic -/
def fAddI : D → D → Option D
  | .int i, .int j => some (.int (i + j))
  | _, _ => none
def fAddS : D → D → Option D
  | .str i, .str j => if i.length + j.length ≤ sizeLine then some (.str (i ++ j)) else none
  | _, _ => none
def fAddT : D → D → Option D
  | .tup i, .tup j => if i.length + j.length ≤ sizeLine then some (.tup (i ++ j)) else none
  | _, _ => none
def fAddL : D → D → Option D
  | .lst i, .lst j => if i.length + j.length ≤ sizeLine then some (.lst (i ++ j)) else none
  | _, _ => none
def fAdd : D → D → Option D
  | .int i, .int j => some (.int (i + j))
  | .str i, .str j => if i.length + j.length ≤ sizeLine then some (.str (i ++ j)) else none
  | .tup i, .tup j => if i.length + j.length ≤ sizeLine then some (.tup (i ++ j)) else none
  | .lst i, .lst j => if i.length + j.length ≤ sizeLine then some (.lst (i ++ j)) else none
  | _, _ => none
def fSub : D → D → Option D
  | .int i, .int j => some (.int (i - j))
  | _, _ => none
theorem small64' {j : Int} (h : -1000000000000 ≤ j ∧ j ≤ 1000000000000) : -(2 ^ 64) < j ∧ j < 2 ^ 64 := ⟨Int.lt_of_lt_of_le (by decide) h.1, Int.lt_of_le_of_lt h.2 (by decide)⟩
theorem small63' {j : Int} (h : -1000000000000 ≤ j ∧ j ≤ 1000000000000) : -(2 ^ 63) ≤ j ∧ j < 2 ^ 63 := ⟨Int.le_trans (by decide) h.1, Int.lt_of_le_of_lt h.2 (by decide)⟩
def fMulI : D → D → Option D
  | .int i, .int j => if -1000000000000 ≤ j ∧ j ≤ 1000000000000 then some (.int (i * j)) else none
  | _, _ => none
def fMulL : D → D → Option D
  | .lst xs, .int k => if (-1000000000000 ≤ k ∧ k ≤ 1000000000000) ∧ xs.length * k.toNat ≤ sizeLine then some (.lst (List.replicate k.toNat xs).flatten) else none
  | _, _ => none
def fMul : D → D → Option D
  | .int i, .int j => if -1000000000000 ≤ j ∧ j ≤ 1000000000000 then some (.int (i * j)) else none
  | .lst xs, .int k => if (-1000000000000 ≤ k ∧ k ≤ 1000000000000) ∧ xs.length * k.toNat ≤ sizeLine then some (.lst (List.replicate k.toNat xs).flatten) else none
  | _, _ => none
def fMod : D → D → Option D
  | .int i, .int j => if 0 < j then some (.int (i % j)) else none
  | _, _ => none
def fFdiv : D → D → Option D
  | .int i, .int j => if 0 < j ∧ j < 1073741824 then some (.int (i / j)) else none
  | _, _ => none
section
variable {K : PySem.W.Frag}
theorem o_addI : OpD K (rI0 fun i j => .int (i + j)) fAddI := by
  intro o G H d1 d2 v1 v2 d Q s r1 r2 e q
  unfold fAddI at e
  split at e
  case h_2 => cases e
  case h_1 i j =>
    cases e
    unfold Rep at r1 r2
    subst r1 r2
    exact ⟨i, j, rfl, rfl, q _ H G (Same.refl _) (Gr.refl s) (by unfold Rep; rfl)⟩
theorem o_sub : OpD K (rI0 fun i j => .int (i - j)) fSub := by
  intro o G H d1 d2 v1 v2 d Q s r1 r2 e q
  unfold fSub at e
  split at e
  case h_2 => cases e
  case h_1 i j =>
    cases e
    unfold Rep at r1 r2
    subst r1 r2
    exact ⟨i, j, rfl, rfl, q _ H G (Same.refl _) (Gr.refl s) (by unfold Rep; rfl)⟩
theorem o_mulI : OpD K (rI CMul fun i j => .int (i * j)) fMulI := by
  intro o G H d1 d2 v1 v2 d Q s r1 r2 e q
  unfold fMulI at e
  split at e
  case h_2 => cases e
  case h_1 i j =>
    split at e
    case isFalse => cases e
    case isTrue hc =>
      cases e
      unfold Rep at r1 r2
      subst r1 r2
      exact ⟨i, j, rfl, rfl, .inr (small64' hc), q _ H G (Same.refl _) (Gr.refl s) (by unfold Rep; rfl)⟩
theorem o_mod : OpD K (rI (fun _ j => 0 < j) fun i j => .int (i % j)) fMod := by
  intro o G H d1 d2 v1 v2 d Q s r1 r2 e q
  unfold fMod at e
  split at e
  case h_2 => cases e
  case h_1 i j =>
    split at e
    case isFalse => cases e
    case isTrue hc =>
      cases e
      unfold Rep at r1 r2
      subst r1 r2
      exact ⟨i, j, rfl, rfl, hc, q _ H G (Same.refl _) (Gr.refl s) (by unfold Rep; rfl)⟩
theorem o_fdiv : OpD K (rI CDiv fun i j => .int (i / j)) fFdiv := by
  intro o G H d1 d2 v1 v2 d Q s r1 r2 e q
  unfold fFdiv at e
  split at e
  case h_2 => cases e
  case h_1 i j =>
    split at e
    case isFalse => cases e
    case isTrue hc =>
      cases e
      unfold Rep at r1 r2
      subst r1 r2
      exact ⟨i, j, rfl, rfl, hc, q _ H G (Same.refl _) (Gr.refl s) (by unfold Rep; rfl)⟩
theorem o_addS : OpD K (fun x y H Q => ∃ i j, x = .str i ∧ y = .str j ∧ i.length + j.length ≤ sizeLine ∧ Q (.str (i ++ j)) H) fAddS := by
  intro o G H d1 d2 v1 v2 d Q s r1 r2 e q
  unfold fAddS at e
  split at e
  case h_2 => cases e
  case h_1 i j =>
    split at e
    case isFalse => cases e
    case isTrue hc =>
      cases e
      unfold Rep at r1 r2
      subst r1 r2
      exact ⟨i, j, rfl, rfl, hc, q _ H G (Same.refl _) (Gr.refl s) (by unfold Rep; rfl)⟩
theorem gnone_of {G H : Hp} (s : Same G H) {p : Addr} (h : H p = none) : G p = none := L2.Same.free s h
theorem o_addL : OpD K rCat fAddL := by
  intro o G H d1 d2 v1 v2 d Q s r1 r2 e q
  unfold fAddL at e
  split at e
  case h_2 => cases e
  case h_1 xs ys =>
    split at e
    case isFalse => cases e
    case isTrue hc =>
      cases e
      unfold Rep at r1 r2
      obtain ⟨a, us, rfl, a1, a2, a3⟩ := r1
      obtain ⟨b, ws, rfl, b1, b2, b3⟩ := r2
      have hz : us.length + ws.length ≤ sizeLine := by rw [← a3.length, ← b3.length]; exact hc
      exact ⟨a, b, us, ws, rfl, rfl, s _ _ a1, s _ _ b1, hz, fun p hp => q _ _ _ (fun c u e => by rw [upd_ne (ne_of_none e hp)]; exact e) (Gr.new s hp)
        (ObjD.rep (d := .lst (xs ++ ys)) ⟨us ++ ws, rfl, by rw [List.length_append]; exact hz, a3.append b3⟩ (gnone_of s hp))⟩
theorem Reps.nil_iff {o : Option Addr} {G : Hp} {ds : List D} {vs : List V} (h : Reps K o G ds vs) : ds = [] ↔ vs = [] := by
  have hl := h.length
  constructor
  · intro e; subst e; exact List.length_eq_zero_iff.mp hl.symm
  · intro e; subst e; exact List.length_eq_zero_iff.mp hl
theorem o_addT : OpD K (rCatA K) fAddT := by
  intro o G H d1 d2 v1 v2 d Q s r1 r2 e q
  unfold fAddT at e
  split at e
  case h_2 => cases e
  case h_1 xs ys =>
    split at e
    case isFalse => cases e
    case isTrue hc =>
      cases e
      unfold Rep at r1 r2
      obtain ⟨a, us, rfl, a1, a2, a3⟩ := r1
      obtain ⟨b, ws, rfl, b1, b2, b3⟩ := r2
      have hz : us.length + ws.length ≤ sizeLine := by rw [← a3.length, ← b3.length]; exact hc
      refine ⟨a, b, us, ws, rfl, rfl, Same.seqT s a1, Same.seqT s b1, hz, fun h0 => ?_, fun _ h0 => ?_, fun _ _ p hp => ?_⟩
      · have e0 : xs = [] := a3.nil_iff.mpr h0
        subst e0
        exact q _ H G (Same.refl _) (Gr.refl s) (by unfold Rep; exact ⟨b, ws, rfl, b1, b2, b3⟩)
      · have e0 : ys = [] := b3.nil_iff.mpr h0
        subst e0
        exact q _ H G (Same.refl _) (Gr.refl s) (by unfold Rep; rw [List.append_nil]; exact ⟨a, us, rfl, a1, a2, a3⟩)
      · exact q _ _ _ (fun c u e => by rw [upd_ne (ne_of_none e hp)]; exact e) (Gr.new s hp) (ObjD.rep (d := .tup (xs ++ ys)) ⟨us ++ ws, rfl, by rw [List.length_append]; exact hz, a3.append b3⟩ (gnone_of s hp))
theorem o_mulL : OpD K rRep fMulL := by
  intro o G H d1 d2 v1 v2 d Q s r1 r2 e q
  unfold fMulL at e
  split at e
  case h_2 => cases e
  case h_1 xs k =>
    split at e
    case isFalse => cases e
    case isTrue hc =>
      cases e
      unfold Rep at r1 r2
      obtain ⟨a, us, rfl, a1, a2, a3⟩ := r1
      subst r2
      have hz : us.length * k.toNat ≤ sizeLine := by rw [← a3.length]; exact hc.2
      have rr : ∀ n : Nat, Reps K o G (List.replicate n xs).flatten (List.replicate n us).flatten := by
        intro n
        induction n with
        | zero => exact Reps.nil
        | succ n ih => rw [List.replicate_succ, List.replicate_succ, List.flatten_cons, List.flatten_cons]; exact a3.append ih
      have hlen : ((List.replicate k.toNat us).flatten).length ≤ sizeLine := by
        rw [List.length_flatten, List.map_replicate, List.sum_replicate_nat, Nat.mul_comm]; exact hz
      exact ⟨a, k, us, rfl, rfl, s _ _ a1, (small63' hc.1).1, (small63' hc.1).2, hz, fun p hp => q _ _ _ (fun c u e => by rw [upd_ne (ne_of_none e hp)]; exact e) (Gr.new s hp)
        (ObjD.rep (d := .lst (List.replicate k.toNat xs).flatten) ⟨_, rfl, hlen, rr _⟩ (gnone_of s hp))⟩
end
section
variable {X : Cx}
def rAdd4 (K : PySem.W.Frag) : R2 := fun x y H Q => rI0 (fun i j => .int (i + j)) x y H Q ∨ ((∃ i j, x = .str i ∧ y = .str j ∧ i.length + j.length ≤ sizeLine ∧ Q (.str (i ++ j)) H) ∨ (rCatA K x y H Q ∨ rCat x y H Q))
theorem op_add4 : OpR X (binaryOp .Add) (rAdd4 X.K) := op_add.or (op_add_str.or (op_catA.or op_cat))
theorem o_add {K : PySem.W.Frag} : OpD K (rAdd4 K) fAdd := by
  refine OpD.or o_addI (OpD.or (h := fun x y => match x, y with | .int _, _ => none | _, _ => fAdd x y) o_addS (OpD.or (h := fun x y => match x, y with | .int _, _ => none | .str _, _ => none | _, _ => fAdd x y) o_addT o_addL ?_) ?_) ?_
  all_goals (intro x y d e; cases x <;> cases y <;> simp [fAdd, fAddI, fAddS, fAddT, fAddL] at e ⊢ <;> first | exact e | exact .inl e | exact .inr e | skip)
def rMul2 : R2 := fun x y H Q => rI CMul (fun i j => .int (i * j)) x y H Q ∨ rRep x y H Q
theorem op_mul2 : OpR X (binaryOp .Mult) rMul2 := op_mul.or op_rep
theorem o_mul {K : PySem.W.Frag} : OpD K rMul2 fMul := by
  refine OpD.or o_mulI o_mulL ?_
  intro x y d e; cases x <;> cases y <;> simp [fMul, fMulI, fMulL] at e ⊢ <;> exact e
end
/-! ### order of numbers -/
def fCmp (p : Int → Int → Bool) : D → D → Option D
  | .int i, .int j => some (.bl (p i j))
  | _, _ => none
theorem c_int {K : PySem.W.Frag} (p : Int → Int → Bool) : CmpD K (rI0 fun i j => .bl (p i j)) (fCmp p) := by
  intro o G H d1 d2 v1 v2 d Q s r1 r2 e q
  unfold fCmp at e
  split at e
  case h_2 => cases e
  case h_1 i j =>
    cases e
    unfold Rep at r1 r2
    subst r1 r2
    exact ⟨i, j, rfl, rfl, q _ (by unfold Rep; rfl)⟩
abbrev fLt := fCmp fun i j => decide (i < j)
abbrev fLe := fCmp fun i j => decide (i ≤ j)
abbrev fGt := fCmp fun i j => decide (j < i)
abbrev fGe := fCmp fun i j => decide (j ≤ i)

/-! ### equal things -/
mutual
def toPy : D → PyData
  | .non => .none
  | .bl b => .bool b
  | .int i => .int i
  | .str x => .str x
  | .tup xs => .tuple (toPys xs)
  | .lst xs => .list (toPys xs)
  | _ => .none
def toPys : List D → List PyData
  | [] => []
  | d :: ds => toPy d :: toPys ds
end
/-- plain things of a depth -/
def fit : Nat → D → Bool
  | _, .non => true
  | _, .bl _ => true
  | _, .int _ => true
  | _, .str x => PyData.strOk x
  | n + 1, .tup xs => xs.all (fit n)
  | n + 1, .lst xs => xs.all (fit n)
  | _, _ => false
def eqD (d e : D) : Bool := PyData.eqv (toPy d) (toPy e)
theorem toPys_map : ∀ xs : List D, toPys xs = xs.map toPy
  | [] => by simp [toPys]
  | x :: xs => by simp [toPys, toPys_map xs]
theorem fit_ok : ∀ (n : Nat) (d : D), fit n d = true → (toPy d).canLay0 = true ∧ (toPy d).depth ≤ n := by
  intro n
  induction n with
  | zero =>
    intro d h
    cases d <;> simp [fit] at h <;> simp [toPy, PyData.canLay0, PyData.depth] <;> exact h
  | succ n ih =>
    intro d h
    have all : ∀ xs : List D, xs.all (fit n) = true → PyData.canLayAll0 (toPys xs) = true ∧ PyData.depthAll (toPys xs) ≤ n := by
      intro xs
      induction xs with
      | nil => intro _; simp [toPys, PyData.canLayAll0, PyData.depthAll]
      | cons x xs ihx =>
        intro hx
        have hx' : fit n x = true ∧ xs.all (fit n) = true := by simpa using hx
        obtain ⟨h1, h2⟩ := ih x hx'.1
        obtain ⟨h3, h4⟩ := ihx hx'.2
        simp only [toPys, PyData.canLayAll0, PyData.depthAll, h1, h3, Bool.and_self, true_and]
        omega
    cases d with
    | tup xs => obtain ⟨h1, h2⟩ := all xs h; simp only [toPy, PyData.canLay0, PyData.depth]; exact ⟨h1, by omega⟩
    | lst xs => obtain ⟨h1, h2⟩ := all xs h; simp only [toPy, PyData.canLay0, PyData.depth]; exact ⟨h1, by omega⟩
    | str x => simp only [fit] at h; simp only [toPy, PyData.canLay0, PyData.depth]; exact ⟨h, by omega⟩
    | non => simp [toPy, PyData.canLay0, PyData.depth]
    | bl _ => simp [toPy, PyData.canLay0, PyData.depth]
    | int _ => simp [toPy, PyData.canLay0, PyData.depth]
    | _ => cases h
theorem fit_shaped {n : Nat} {d : D} (hn : n ≤ 64) (h : fit n d = true) : SeqAt.shaped (toPy d) = true := by
  obtain ⟨h1, h2⟩ := fit_ok n d h
  unfold SeqAt.shaped
  rw [h1, Bool.true_and]
  exact decide_eq_true (by omega)
theorem dp_of {K : PySem.W.Frag} {o : Option Addr} {G H : Hp} (s : Same G H) : ∀ (n : Nat) (d : D) (v : V), fit n d = true → Rep K o G d v → Dp K H v (toPy d) := by
  intro n
  induction n with
  | zero =>
    intro d v h r
    cases d <;> simp [fit] at h <;> unfold Rep at r <;> subst r <;> simp only [toPy] <;> constructor
  | succ n ih =>
    intro d v h r
    have all : ∀ (xs : List D) (vs : List V), xs.all (fit n) = true → Reps K o G xs vs → DpAll K H vs (toPys xs) := by
      intro xs
      induction xs with
      | nil => intro vs _ r; unfold Reps at r; subst r; simp only [toPys]; exact .nil
      | cons x xs ihx =>
        intro vs hx r
        unfold Reps at r
        obtain ⟨v, t, rfl, r1, r2⟩ := r
        have hx' : fit n x = true ∧ xs.all (fit n) = true := by simpa using hx
        simp only [toPys]
        exact .cons (ih x v hx'.1 r1) (ihx t hx'.2 r2)
    cases d with
    | tup xs =>
      unfold Rep at r
      obtain ⟨a, vs, rfl, a1, a2, a3⟩ := r
      simp only [toPy]
      exact .tup (Same.seqT s a1) (all xs vs h a3)
    | lst xs =>
      unfold Rep at r
      obtain ⟨a, vs, rfl, a1, a2, a3⟩ := r
      simp only [toPy]
      exact .lst (.of (s _ _ a1)) (all xs vs h a3)
    | str x => unfold Rep at r; subst r; simp only [toPy]; exact .str x
    | non => unfold Rep at r; subst r; simp only [toPy]; exact .non
    | bl b => unfold Rep at r; subst r; simp only [toPy]; exact .bl b
    | int i => unfold Rep at r; subst r; simp only [toPy]; exact .int i
    | _ => cases h
def fEq (d e : D) : Option D := if fit 8 d = true ∧ fit 8 e = true then some (.bl (eqD d e)) else none
def fNe (d e : D) : Option D := if fit 8 d = true ∧ fit 8 e = true then some (.bl (!eqD d e)) else none
theorem c_eq {K : PySem.W.Frag} : CmpD K (rEqD K) fEq := by
  intro o G H d1 d2 v1 v2 d Q s r1 r2 e q
  unfold fEq at e
  split at e
  case isFalse => cases e
  case isTrue h =>
    cases e
    exact ⟨toPy d1, toPy d2, dp_of s 8 _ _ h.1 r1, dp_of s 8 _ _ h.2 r2, fit_shaped (by decide) h.1, fit_shaped (by decide) h.2, q _ (by unfold Rep; rfl)⟩
theorem c_ne {K : PySem.W.Frag} : CmpD K (rNeD K) fNe := by
  intro o G H d1 d2 v1 v2 d Q s r1 r2 e q
  unfold fNe at e
  split at e
  case isFalse => cases e
  case isTrue h =>
    cases e
    exact ⟨toPy d1, toPy d2, dp_of s 8 _ _ h.1 r1, dp_of s 8 _ _ h.2 r2, fit_shaped (by decide) h.1, fit_shaped (by decide) h.2, q _ (by unfold Rep; rfl)⟩
/-! ### in -/
def flatD : D → Bool
  | .non => true
  | .bl _ => true
  | .int _ => true
  | .str _ => true
  | _ => false
def eqF : D → D → Bool
  | .non, .non => true
  | .bl a, .bl b => a == b
  | .bl a, .int b => (if a then 1 else 0) == b
  | .int a, .bl b => a == (if b then 1 else 0)
  | .int a, .int b => a == b
  | .str a, .str b => a == b
  | _, _ => false
theorem flat_v {K : PySem.W.Frag} {o : Option Addr} {G : Hp} {d : D} {v : V} (h : flatD d = true) (r : Rep K o G d v) : flatV v = true := by
  cases d <;> first | (unfold Rep at r; subst r; rfl) | cases h
theorem eqF_v {K : PySem.W.Frag} {o : Option Addr} {G : Hp} {d e : D} {v u : V} (h : flatD d = true) (h' : flatD e = true) (r : Rep K o G d v) (r' : Rep K o G e u) : eqV v u = eqF d e := by
  cases d <;> first | (cases h; done) | (cases e <;> first | (unfold Rep at r r'; subst r r'; rfl) | (cases h'; done))
theorem flats_v {K : PySem.W.Frag} {o : Option Addr} {G : Hp} : ∀ {ds : List D} {vs : List V}, ds.all flatD = true → Reps K o G ds vs → vs.all flatV = true
  | [], _, _, r => by unfold Reps at r; subst r; rfl
  | d :: ds, vs, h, r => by
    unfold Reps at r
    obtain ⟨v, t, rfl, r1, r2⟩ := r
    have h' : flatD d = true ∧ ds.all flatD = true := by simpa using h
    simp only [List.all_cons, flat_v h'.1 r1, flats_v h'.2 r2, Bool.and_self]
theorem anyF_v {K : PySem.W.Frag} {o : Option Addr} {G : Hp} {x : D} {u : V} (hx : flatD x = true) (rx : Rep K o G x u) : ∀ {ds : List D} {vs : List V}, ds.all flatD = true → Reps K o G ds vs → inV u vs = ds.any fun y => eqF y x
  | [], _, _, r => by unfold Reps at r; subst r; rfl
  | d :: ds, vs, h, r => by
    unfold Reps at r
    obtain ⟨v, t, rfl, r1, r2⟩ := r
    have h' : flatD d = true ∧ ds.all flatD = true := by simpa using h
    show (eqV v u || inV u t) = _
    rw [eqF_v h'.1 hx r1 rx, anyF_v hx rx h'.2 r2]
    rfl
def seqOf : D → Option (List D)
  | .lst xs => some xs
  | .tup xs => some xs
  | _ => none
def fInF (neg : Bool) (x y : D) : Option D := match seqOf y with
  | some ds => if flatD x = true ∧ ds.all flatD = true then some (.bl (if neg = true then !ds.any (fun y => eqF y x) else ds.any fun y => eqF y x)) else none
  | none => none
theorem c_inF {K : PySem.W.Frag} {neg : Bool} : CmpD K (rIn K neg) (fInF neg) := by
  intro o G H d1 d2 v1 v2 d Q s r1 r2 e q
  unfold fInF at e
  have main : ∀ (ds : List D) (vs : List V) (p : Addr), (SqL K H p vs ∨ SqT K H p vs) → v2 = .ref p → Reps K o G ds vs → (if flatD d1 = true ∧ ds.all flatD = true then some (D.bl (if neg = true then !ds.any (fun y => eqF y d1) else ds.any fun y => eqF y d1)) else none) = some d → rIn K neg v1 v2 H Q := by
    intro ds vs p hs hp rr e
    split at e
    case isFalse => cases e
    case isTrue h =>
      cases e
      refine ⟨p, vs, hp, hs, flat_v h.1 r1, flats_v h.2 rr, ?_⟩
      rw [anyF_v h.1 r1 h.2 rr]
      exact q _ (by unfold Rep; cases neg <;> rfl)
  cases d2 with
  | lst ds =>
    unfold Rep at r2
    obtain ⟨a, vs, rfl, a1, a2, a3⟩ := r2
    exact main ds vs a (.inl (.of (s _ _ a1))) rfl a3 e
  | tup ds =>
    unfold Rep at r2
    obtain ⟨a, vs, rfl, a1, a2, a3⟩ := r2
    exact main ds vs a (.inr (Same.seqT s a1)) rfl a3 e
  | _ => cases e
def fInD (neg : Bool) : D → D → Option D
  | x, .lst ds => if fit 8 x = true ∧ fit 8 (.lst ds) = true then some (.bl (if neg = true then !ds.any (fun y => eqD y x) else ds.any fun y => eqD y x)) else none
  | _, _ => none
theorem any_py {x : D} : ∀ ds : List D, (toPys ds).any (fun z => PyData.eqv z (toPy x)) = ds.any fun y => eqD y x
  | [] => by simp [toPys]
  | d :: ds => by simp only [toPys, List.any_cons, any_py ds]; rfl
theorem c_inD {K : PySem.W.Frag} : CmpD K (rInD K) (fInD false) := by
  intro o G H d1 d2 v1 v2 d Q s r1 r2 e q
  unfold fInD at e
  split at e
  case h_2 => cases e
  case h_1 x ds =>
    split at e
    case isFalse => cases e
    case isTrue h =>
      cases e
      refine ⟨toPy d1, toPys ds, dp_of s 8 _ _ h.1 r1, ?_, fit_shaped (by decide) h.1, ?_, ?_⟩
      · have := dp_of s 8 _ _ h.2 r2; simpa only [toPy] using this
      · have := fit_shaped (d := .lst ds) (by decide) h.2; simpa only [toPy] using this
      · rw [any_py]; exact q _ (by unfold Rep; rfl)
theorem c_notInD {K : PySem.W.Frag} : CmpD K (rNotInD K) (fInD true) := by
  intro o G H d1 d2 v1 v2 d Q s r1 r2 e q
  unfold fInD at e
  split at e
  case h_2 => cases e
  case h_1 x ds =>
    split at e
    case isFalse => cases e
    case isTrue h =>
      cases e
      refine ⟨toPy d1, toPys ds, dp_of s 8 _ _ h.1 r1, ?_, fit_shaped (by decide) h.1, ?_, ?_⟩
      · have := dp_of s 8 _ _ h.2 r2; simpa only [toPy] using this
      · have := fit_shaped (d := .lst ds) (by decide) h.2; simpa only [toPy] using this
      · rw [any_py]; exact q _ (by unfold Rep; rfl)
def fIn (neg : Bool) (x y : D) : Option D := match fInF neg x y with
  | some d => some d
  | none => fInD neg x y
section
variable {X : Cx}
theorem op_in2 (hu : X.A.units + 65 < cLine) : OpR X (compareOp .In) (fun x y H Q => rIn X.K false x y H Q ∨ rInD X.K x y H Q) := op_in_seq.or (op_inD hu)
theorem op_notIn2 (hu : X.A.units + 65 < cLine) : OpR X (compareOp .NotIn) (fun x y H Q => rIn X.K true x y H Q ∨ rNotInD X.K x y H Q) := op_notIn_seq.or (op_notInD hu)
theorem c_in {K : PySem.W.Frag} : CmpD K (fun x y H Q => rIn K false x y H Q ∨ rInD K x y H Q) (fIn false) := CmpD.or c_inF c_inD fun x y d e => by
  unfold fIn at e
  cases q : fInF false x y with
  | some z => rw [q] at e; exact .inl e
  | none => rw [q] at e; exact .inr e
theorem c_notIn {K : PySem.W.Frag} : CmpD K (fun x y H Q => rIn K true x y H Q ∨ rNotInD K x y H Q) (fIn true) := CmpD.or c_inF c_notInD fun x y d e => by
  unfold fIn at e
  cases q : fInF true x y with
  | some z => rw [q] at e; exact .inl e
  | none => rw [q] at e; exact .inr e
end
/-! ### items -/
def dLook : List Int → List D → Int → Option D
  | k :: ks, d :: ds, j => if k = j then some d else dLook ks ds j
  | _, _, _ => none
def fIx : D → D → Option D
  | .lst xs, .int i => atI xs i
  | .tup xs, .int i => atI xs i
  | .str z, .int i => if z.length ≤ sizeLine then (atI z.cps.toList i).map fun c => .str ⟨#[c]⟩ else none
  | .scr ns, .int i => (atI ns i).map .int
  | _, _ => none
theorem Reps.atI {K : PySem.W.Frag} {o : Option Addr} {G : Hp} {ds : List D} {vs : List V} {i : Int} {d : D} (r : Reps K o G ds vs) (h : atI ds i = some d) : ∃ v, atI vs i = some v ∧ Rep K o G d v := by
  unfold L2.atI at h ⊢
  rw [← r.length]
  cases e : ixN ds.length i with
  | none => rw [e] at h; cases h
  | some j =>
    rw [e] at h
    exact r.get h
theorem atI_map {α β : Type} {f : α → β} {xs : List α} {i : Int} {y : α} (h : atI xs i = some y) : atI (xs.map f) i = some (f y) := by
  unfold L2.atI at h ⊢
  rw [List.length_map]
  cases e : ixN xs.length i with
  | none => rw [e] at h; cases h
  | some j =>
    rw [e] at h
    simp only [Option.bind_some] at h ⊢
    rw [List.getElem?_map, h]
    rfl
theorem scr_seq {K : PySem.W.Frag} {o : Option Addr} {G H : Hp} {ns : List Int} {v : V} (s : Same G H) (r : Rep K o G (.scr ns) v) : ∃ a, v = .ref a ∧ SqL K H a (ns.map V.int) ∧ ns.length ≤ sizeLine := by
  unfold Rep at r
  obtain ⟨a, rfl, h, hl⟩ := r
  refine ⟨a, rfl, ?_, hl⟩
  rcases h with ⟨ob, h⟩ | (h | ⟨ob, h⟩) | h
  · exact .inl (.inr ⟨ob, s _ _ h⟩)
  · cases h
  · cases h
  · exact .inr h
theorem o_ix {K : PySem.W.Frag} : OpD K (rIx K) fIx := by
  intro o G H d1 d2 v1 v2 d Q s r1 r2 e q
  unfold fIx at e
  split at e
  case h_5 => cases e
  case h_1 xs i =>
    unfold Rep at r1 r2
    obtain ⟨a, vs, rfl, a1, a2, a3⟩ := r1
    subst r2
    obtain ⟨v, h1, h2⟩ := a3.atI e
    exact .inl ⟨a, vs, i, v, rfl, rfl, .of (s _ _ a1), h1, q v H G (Same.refl _) (Gr.refl s) h2⟩
  case h_2 xs i =>
    unfold Rep at r1 r2
    obtain ⟨a, vs, rfl, a1, a2, a3⟩ := r1
    subst r2
    obtain ⟨v, h1, h2⟩ := a3.atI e
    exact .inr (.inl ⟨a, vs, i, v, rfl, rfl, Same.seqT s a1, h1, q v H G (Same.refl _) (Gr.refl s) h2⟩)
  case h_3 z i =>
    unfold Rep at r1 r2
    subst r1 r2
    split at e
    case isFalse => cases e
    case isTrue hz =>
      cases h : L2.atI z.cps.toList i with
      | none => rw [h] at e; cases e
      | some c =>
        rw [h] at e
        cases e
        exact .inr (.inr ⟨z, i, c, rfl, rfl, hz, h, q _ H G (Same.refl _) (Gr.refl s) (by unfold Rep; rfl)⟩)
  case h_4 ns i =>
    obtain ⟨a, rfl, h1, h2⟩ := scr_seq s r1
    unfold Rep at r2
    subst r2
    cases h : L2.atI ns i with
    | none => rw [h] at e; cases e
    | some c =>
      rw [h] at e
      cases e
      exact .inl ⟨a, _, i, .int c, rfl, rfl, h1, atI_map h, q _ H G (Same.refl _) (Gr.refl s) (by unfold Rep; rfl)⟩
/-! ### built-ins -/
def fLen : List D → Option D
  | [.lst xs] => some (.int xs.length)
  | [.tup xs] => some (.int xs.length)
  | [.scr ns] => some (.int ns.length)
  | [.str x] => if x.length ≤ sizeLine then some (.int x.length) else none
  | _ => none
theorem reps1 {K : PySem.W.Frag} {o : Option Addr} {G : Hp} {d : D} {vs : List V} (r : Reps K o G [d] vs) : ∃ v, vs = [v] ∧ Rep K o G d v := by
  unfold Reps at r
  obtain ⟨v, t, rfl, r1, r2⟩ := r
  unfold Reps at r2
  subst r2
  exact ⟨v, rfl, r1⟩
theorem reps2 {K : PySem.W.Frag} {o : Option Addr} {G : Hp} {d e : D} {vs : List V} (r : Reps K o G [d, e] vs) : ∃ v u, vs = [v, u] ∧ Rep K o G d v ∧ Rep K o G e u := by
  unfold Reps at r
  obtain ⟨v, t, rfl, r1, r2⟩ := r
  obtain ⟨u, rfl, r3⟩ := reps1 r2
  exact ⟨v, u, rfl, r1, r3⟩
theorem a_len {K : PySem.W.Frag} : ArD K (fun xs H Q => ∃ x n, xs = [x] ∧ LenV K x H n ∧ Q (.int n) H) fLen := by
  intro o G H ds vs d Q s r e q
  unfold fLen at e
  split at e
  case h_5 => cases e
  case h_1 xs =>
    cases e
    obtain ⟨v, rfl, r1⟩ := reps1 r
    replace r := r1
    clear r1
    unfold Rep at r
    obtain ⟨a, us, rfl, a1, a2, a3⟩ := r
    exact ⟨_, xs.length, rfl, .inl ⟨us, .of (s _ _ a1), a3.length⟩, q _ H G (Same.refl _) (Gr.refl s) (by unfold Rep; rfl)⟩
  case h_2 xs =>
    cases e
    obtain ⟨v, rfl, r1⟩ := reps1 r
    replace r := r1
    clear r1
    unfold Rep at r
    obtain ⟨a, us, rfl, a1, a2, a3⟩ := r
    exact ⟨_, xs.length, rfl, .inr ⟨us, Same.seqT s a1, a3.length⟩, q _ H G (Same.refl _) (Gr.refl s) (by unfold Rep; rfl)⟩
  case h_3 ns =>
    cases e
    obtain ⟨v, rfl, r1⟩ := reps1 r
    replace r := r1
    clear r1
    obtain ⟨a, rfl, h1, h2⟩ := scr_seq s r
    exact ⟨_, ns.length, rfl, .inl ⟨_, h1, by simp⟩, q _ H G (Same.refl _) (Gr.refl s) (by unfold Rep; rfl)⟩
  case h_4 x =>
    split at e
    case isFalse => cases e
    case isTrue hz =>
      cases e
      obtain ⟨v, rfl, r1⟩ := reps1 r
      unfold Rep at r1
      subst r1
      exact ⟨_, x.length, rfl, ⟨hz, rfl⟩, q _ H G (Same.refl _) (Gr.refl s) (by unfold Rep; rfl)⟩
/-- list(xs), a new list -/
def fList : List D → Option D
  | [.lst xs] => some (.lst xs)
  | [.tup xs] => some (.lst xs)
  | _ => none
theorem a_list {K : PySem.W.Frag} : ArN K (fun xs H Q => ∃ p ys, xs = [.ref p] ∧ (SqL K H p ys ∨ SqT K H p ys) ∧ ∀ l, H l = none → Q (.ref l) (upd H l (.lst ys))) fList := by
  intro o G H ds vs d Q s r e
  unfold fList at e
  split at e
  case h_3 => cases e
  case h_1 xs =>
    cases e
    obtain ⟨v, rfl, r1⟩ := reps1 r
    replace r := r1
    clear r1
    unfold Rep at r
    obtain ⟨a, us, rfl, a1, a2, a3⟩ := r
    exact ⟨rfl, fun k => ⟨a, us, rfl, .inl (.of (s _ _ a1)), fun p hp => k p H _ (Same.refl _) hp ⟨us, rfl, a2, a3⟩⟩⟩
  case h_2 xs =>
    cases e
    obtain ⟨v, rfl, r1⟩ := reps1 r
    replace r := r1
    clear r1
    unfold Rep at r
    obtain ⟨a, us, rfl, a1, a2, a3⟩ := r
    exact ⟨rfl, fun k => ⟨a, us, rfl, .inr (Same.seqT s a1), fun p hp => k p H _ (Same.refl _) hp ⟨us, rfl, a2, a3⟩⟩⟩
def fTuple : List D → Option D
  | [.lst xs] => some (.tup xs)
  | [.tup xs] => some (.tup xs)
  | _ => none
theorem a_tuple {K : PySem.W.Frag} : ArD K (fun xs H Q => ∃ p ys, xs = [.ref p] ∧ ((SqL K H p ys ∧ ∀ l, H l = none → Q (.ref l) (upd H l (.tup ys))) ∨ (SqT K H p ys ∧ Q (.ref p) H))) fTuple := by
  intro o G H ds vs d Q s r e q
  unfold fTuple at e
  split at e
  case h_3 => cases e
  case h_1 xs =>
    cases e
    obtain ⟨v, rfl, r1⟩ := reps1 r
    replace r := r1
    clear r1
    unfold Rep at r
    obtain ⟨a, us, rfl, a1, a2, a3⟩ := r
    exact ⟨a, us, rfl, .inl ⟨.of (s _ _ a1), fun p hp => q _ _ _ (fun c u e => by rw [upd_ne (ne_of_none e hp)]; exact e) (Gr.new s hp) (ObjD.rep (d := .tup xs) ⟨us, rfl, a2, a3⟩ (gnone_of s hp))⟩⟩
  case h_2 xs =>
    cases e
    obtain ⟨v, rfl, r1⟩ := reps1 r
    replace r := r1
    clear r1
    have r' := r
    unfold Rep at r
    obtain ⟨a, us, rfl, a1, a2, a3⟩ := r
    exact ⟨a, us, rfl, .inr ⟨Same.seqT s a1, q _ H G (Same.refl _) (Gr.refl s) r'⟩⟩
def fMin2 : List D → Option D
  | [.int i, .int j] => some (.int (if j < i then j else i))
  | _ => none
def fMax2 : List D → Option D
  | [.int i, .int j] => some (.int (if j > i then j else i))
  | _ => none
theorem a_min2 {K : PySem.W.Frag} : ArD K (fun xs H Q => ∃ i j, xs = [.int i, .int j] ∧ Q (.int (if j < i then j else i)) H) fMin2 := by
  intro o G H ds vs d Q s r e q
  unfold fMin2 at e
  split at e
  case h_2 => cases e
  case h_1 i j =>
    cases e
    have ev : vs = [.int i, .int j] := Reps.ints (ns := [i, j]) r
    exact ⟨i, j, ev, q _ H G (Same.refl _) (Gr.refl s) (by unfold Rep; rfl)⟩
theorem a_max2 {K : PySem.W.Frag} : ArD K (fun xs H Q => ∃ i j, xs = [.int i, .int j] ∧ Q (.int (if j > i then j else i)) H) fMax2 := by
  intro o G H ds vs d Q s r e q
  unfold fMax2 at e
  split at e
  case h_2 => cases e
  case h_1 i j =>
    cases e
    have ev : vs = [.int i, .int j] := Reps.ints (ns := [i, j]) r
    exact ⟨i, j, ev, q _ H G (Same.refl _) (Gr.refl s) (by unfold Rep; rfl)⟩
/-! isinstance -/
def tyN : D → Option String
  | .non => some "NoneType"
  | .bl _ => some "bool"
  | .int _ => some "int"
  | .str _ => some "str"
  | .tup _ => some "tuple"
  | .lst _ => some "list"
  | _ => none
def isT (a b : String) : Option Bool :=
  if a ∈ ["NoneType", "bool", "int", "str", "tuple", "list"] ∧ b ∈ ["bool", "int", "str", "tuple", "list"] then some (a == b || (a == "bool" && b == "int")) else none
theorem isT_kit {K : PySem.W.Frag} {a b : String} {r : Bool} (h : isT a b = some r) : PySem.W.kitOne K (.type a) (.type b) = some r := by
  unfold isT at h
  split at h
  case isFalse => cases h
  case isTrue hm =>
    have e : isT a b = some r := by unfold isT; rw [if_pos hm]; exact h
    have key : ∀ a ∈ ["NoneType", "bool", "int", "str", "tuple", "list"], ∀ b ∈ ["bool", "int", "str", "tuple", "list"], kitB a b = some (a == b || (a == "bool" && b == "int")) := by decide +kernel
    exact kit_ty ((key a hm.1 b hm.2).trans h)
theorem ty_rep {K : PySem.W.Frag} {o : Option Addr} {G H : Hp} {d : D} {v : V} {n : String} (s : Same G H) (h : tyN d = some n) (r : Rep K o G d v) : TyX K H v (.type n) := by
  cases d with
  | non => cases h; unfold Rep at r; subst r; exact .base .non
  | bl b => cases h; unfold Rep at r; subst r; exact .base (.bl b)
  | int b => cases h; unfold Rep at r; subst r; exact .base (.int b)
  | str b => cases h; unfold Rep at r; subst r; exact .base (.str b)
  | tup xs =>
    cases h
    unfold Rep at r
    obtain ⟨a, vs, rfl, a1, _⟩ := r
    rcases a1 with (a1 | ⟨ob, a1⟩) | ⟨ob, its, n, a1, c, _⟩
    · exact .base (.tup (s _ _ a1))
    · exact .fTuple (s _ _ a1)
    · exact .kTuple a1 c
  | lst xs =>
    cases h
    unfold Rep at r
    obtain ⟨a, vs, rfl, a1, _⟩ := r
    exact .base (.lst (s _ _ a1))
  | _ => cases h
def fIsi : List D → Option D
  | [d, .raw (.ty b)] => (tyN d).bind fun a => (isT a b).map .bl
  | _ => none
theorem a_isi {K : PySem.W.Frag} : ArD K (rIsi K) fIsi := by
  intro o G H ds vs d Q s r e q
  unfold fIsi at e
  split at e
  case h_2 => cases e
  case h_1 d b =>
    obtain ⟨v, u, rfl, r1, r2⟩ := reps2 r
    unfold Rep at r2
    subst r2
    cases h1 : tyN d with
    | none => rw [h1] at e; cases e
    | some a =>
      rw [h1] at e
      cases h2 : isT a b with
      | none => simp [h2] at e
      | some p =>
        simp only [h2, Option.bind_some, Option.map_some, Option.some.injEq] at e
        subst e
        exact ⟨v, .ty b, .type a, .type b, p, rfl, .ty b, ty_rep s h1 r1, isT_kit h2, q _ H G (Same.refl _) (Gr.refl s) (by unfold Rep; rfl)⟩
/-- isinstance(x, (T, U)) -/
def fIsi2 (b c : String) (d : D) : Option D := (tyN d).bind fun a => (isT a b).bind fun p => (isT a c).map fun q => .bl (p || q)
section
variable {X : Cx} {W : WD}
theorem de_isi2 {e : Expr} {g : EM D} {b c : String} (h : PE X e (tCB (rIsiT X.K) (tCons (tD X.K W g) (tCons (tTup (tCons (tC (.ty b)) (tCons (tC (.ty c)) tNil))) tNil)))) : DE X W e (eUn (fIsi2 b c) g) := by
  refine pe_imp h fun σ H Q hq => ?_
  obtain ⟨C, l, rw, G, S, hp⟩ := hq
  refine seqD (P := PEq X.K W C l σ H G Q) S hp (fun _ _ z => z) (fun z => z) fun d rw1 v H1 G1 S1 s1 r1 h1 => ?_
  dsimp only [PEq] at h1
  refine ⟨by show 2 ≤ sizeLine; rw [sizeLine_eq]; decide, fun t ht => ?_⟩
  unfold fIsi2 at h1
  cases e1 : tyN d with
  | none => rw [e1] at h1; exact h1.elim
  | some a =>
    rw [e1] at h1
    simp only [Option.bind_some] at h1
    cases e2 : isT a b with
    | none => rw [e2] at h1; exact h1.elim
    | some p =>
      rw [e2] at h1
      simp only [Option.bind_some] at h1
      cases e3 : isT a c with
      | none => rw [e3] at h1; exact h1.elim
      | some q =>
        rw [e3] at h1
        have S2 := S1.new (o := .tup [.ty b, .ty c]) ht
        have g2 := Gr.new (K := X.K) (r := C.r) (o := .tup [.ty b, .ty c]) S1.sub ht
        refine ⟨v, t, [.ty b, .ty c], .type a, [.type b, .type c], p || q, rfl, upd_same, .cons (.ty b) (.cons (.ty c) .nil), ?_, ?_, ?_⟩
        · exact ty_rep S2.sub e1 (r1.mono g2.g)
        · refine kitAny_cons (isT_kit e2) (fun hb => ?_) fun hb => by rw [hb]; rfl
          refine kitAny_cons (isT_kit e3) (fun hc => by rw [hb, hc]; rfl) fun hc => by rw [hc, Bool.or_true]
        · exact h1 (.bl (p || q)) _ _ S2 (s1.trans g2) (by unfold Rep; rfl)
end
/-! sorted(set(t)), t a tuple of numbers -/
def insU (x : Int) : List Int → List Int
  | [] => [x]
  | y :: ys => if x < y then x :: y :: ys else if x = y then y :: ys else y :: insU x ys
def sortU : List Int → List Int
  | [] => []
  | x :: xs => insU x (sortU xs)
theorem mem_insU {x k : Int} : ∀ {ys : List Int}, k ∈ insU x ys ↔ k = x ∨ k ∈ ys
  | [] => by simp [insU]
  | y :: ys => by
    unfold insU
    split
    · simp
    · split
      · rename_i h; subst h; simp
      · simp only [List.mem_cons, mem_insU (ys := ys)]
        constructor
        · rintro (h | h | h)
          · exact .inr (.inl h)
          · exact .inl h
          · exact .inr (.inr h)
        · rintro (h | h | h)
          · exact .inr (.inl h)
          · exact .inl h
          · exact .inr (.inr h)
theorem pw_insU {x : Int} : ∀ {ys : List Int}, ys.Pairwise (· < ·) → (insU x ys).Pairwise (· < ·)
  | [], _ => by simp [insU]
  | y :: ys, h => by
    obtain ⟨h1, h2⟩ := List.pairwise_cons.mp h
    unfold insU
    split
    · rename_i hxy
      refine List.pairwise_cons.mpr ⟨fun z hz => ?_, h⟩
      rcases List.mem_cons.mp hz with rfl | hz
      · exact hxy
      · have := h1 z hz; omega
    · split
      · exact h
      · refine List.pairwise_cons.mpr ⟨fun z hz => ?_, pw_insU h2⟩
        rcases mem_insU.mp hz with rfl | hz
        · omega
        · exact h1 z hz
theorem mem_sortU {k : Int} : ∀ {xs : List Int}, k ∈ sortU xs ↔ k ∈ xs
  | [] => by simp [sortU]
  | x :: xs => by unfold sortU; rw [mem_insU, mem_sortU, List.mem_cons]
theorem pw_sortU : ∀ xs : List Int, (sortU xs).Pairwise (· < ·)
  | [] => by simp [sortU]
  | x :: xs => by unfold sortU; exact pw_insU (pw_sortU xs)
theorem pw_uniq : ∀ {xs ys : List Int}, xs.Pairwise (· < ·) → ys.Pairwise (· < ·) → (∀ k, k ∈ xs ↔ k ∈ ys) → xs = ys
  | [], [], _, _, _ => rfl
  | [], y :: ys, _, _, h => by have := (h y).mpr (by simp); simp at this
  | x :: xs, [], _, _, h => by have := (h x).mp (by simp); simp at this
  | x :: xs, y :: ys, h1, h2, h => by
    obtain ⟨a1, a2⟩ := List.pairwise_cons.mp h1
    obtain ⟨b1, b2⟩ := List.pairwise_cons.mp h2
    have e : x = y := by
      rcases List.mem_cons.mp ((h x).mp (by simp)) with e | e
      · exact e
      · rcases List.mem_cons.mp ((h y).mpr (by simp)) with e' | e'
        · exact e'.symm
        · have := b1 x e; have := a1 y e'; omega
    subst e
    rw [pw_uniq a2 b2 fun k => ⟨fun hk => ?_, fun hk => ?_⟩]
    · rcases List.mem_cons.mp ((h k).mp (List.mem_cons_of_mem _ hk)) with rfl | z
      · have := a1 k hk; omega
      · exact z
    · rcases List.mem_cons.mp ((h k).mpr (List.mem_cons_of_mem _ hk)) with rfl | z
      · have := b1 k hk; omega
      · exact z
def toInts : List D → Option (List Int)
  | [] => some []
  | .int i :: ds => (toInts ds).map (i :: ·)
  | _ => none
theorem toInts_eq : ∀ {ds : List D} {ns : List Int}, toInts ds = some ns → ds = ns.map .int
  | [], ns, h => by simp [toInts] at h; subst h; rfl
  | d :: ds, ns, h => by
    cases d <;> simp [toInts] at h
    case int i =>
      obtain ⟨a, h1, rfl⟩ := h
      rw [toInts_eq h1]; rfl
def sortSet : D → Option D
  | .tup ds => (toInts ds).bind fun (ns : List Int) => if ns.length < 64 then some (.lst ((sortU ns).map D.int)) else none
  | _ => none
def rSetT (K : PySem.W.Frag) (w : World) : List V → Hp → VK → Prop := fun xs H Q => ∃ (p : Addr) (ns : List Int), xs = [.ref p] ∧ SqT K H p (ns.map V.int) ∧ ns.length + 1 < scanBound ∧ ∀ (q : Addr) (c : Nat), H q = none → c ≤ ns.length → Q (.ref q) (upd H q (SetO w q (fun j => decide (j ∈ ns)) c))
section
variable {X : Cx} {W : WD}
theorem cr_setT (hc : X.calm = true) : CallR X (.type "set") (rSetT X.K X.w) := by
  intro pins s σ H xs us Q I r h
  obtain ⟨p, ns, rfl, hq, hb, q⟩ := h
  obtain ⟨u, rfl, ru⟩ := vals1 r
  cases ru
  obtain ⟨its, rv, pt, hz⟩ := I.tuple hq
  refine call_set_tupI ns (I.ok.hd hc) (show s.heap.IsTuple p its.toArray from pt) (Vals.ints rv) hb fun h' tk c R1 hcn k => ?_
  have hf : H s.heap.objs.size = none := I.hok.fresh (Nat.le_refl _)
  exact ⟨.ref s.heap.objs.size, _, I.laid (t' := tk) k (Nat.le_refl _) (setO_new R1), rfl, q _ c hf hcn⟩
theorem do_sortSet {e : Expr} {g : EM D} (h : PE X e (tCB (rSortedSet X.w) (tCons (tCB (rSetT X.K X.w) (tCons (tD X.K W g) tNil)) tNil))) : DO X W e (eUn sortSet g) := by
  refine pe_imp h fun σ H Q hq => ?_
  obtain ⟨C, l, rw, G, S, hp⟩ := hq
  refine seqD (P := POq X.K W C l σ H G Q) S hp (fun _ _ z => z) (fun z => z) fun d rw1 v H1 G1 S1 s1 r1 h1 => ?_
  dsimp only [POq] at h1
  unfold sortSet at h1
  cases d with
  | tup ds =>
    dsimp only at h1
    cases e1 : toInts ds with
    | none => rw [e1] at h1; exact h1.elim
    | some ns =>
      rw [e1] at h1
      simp only [Option.bind_some] at h1
      by_cases hl : ns.length < 64
      case neg => rw [if_neg hl] at h1; exact h1.elim
      rw [if_pos hl] at h1
      have hds := toInts_eq e1
      subst hds
      unfold Rep at r1
      obtain ⟨a, vs, rfl, a1, a2, a3⟩ := r1
      have hv := Reps.ints a3
      subst hv
      refine ⟨a, ns, rfl, Same.seqT S1.sub a1, by unfold scanBound; omega, fun q c hq hc => ?_⟩
      refine ⟨q, _, c, rfl, upd_same, by omega, fun ns' p hs hm hlen hp' => ?_⟩
      have en : ns' = sortU ns := pw_uniq hs (pw_sortU ns) fun k => by rw [hm k, mem_sortU, decide_eq_true_eq]
      subst en
      have S2 := S1.newO (o := SetO X.w q (fun j => decide (j ∈ ns)) c) hq
      have g2 := Gr.newO (K := X.K) (r := C.r) (o := SetO X.w q (fun j => decide (j ∈ ns)) c) S1.sub hq
      have hob : ObjD X.K C.r G1 (.lst ((sortU ns).map D.int)) (.lst ((sortU ns).map V.int)) := ⟨_, rfl, by rw [List.length_map, hlen, sizeLine_eq]; omega, Reps.of_ints _⟩
      refine h1 p _ _ (S2.newO hp') ((s1.trans g2).trans (Gr.newO S2.sub hp')) ?_ (S2.ownNew hp' hob rfl)
      cases e : H p with
      | none => rfl
      | some o => obtain ⟨o', z⟩ := (s1.trans g2).t _ _ e; rw [hp'] at z; cases z
  | _ => exact h1.elim
end
end HD
end
section
/-! The data layer: defs by their facts; more operators; a law's own frame. -/
namespace HD
open PySem PySem.Spec L2
open PyProof.Rows hiding St

abbrev CXF : CXT := fun _ _ _ _ _ _ => False
/-- a def of the text that keeps the promise of its reading -/
structure Cal (P : Program) (w : World) (K : PySem.W.Frag) (mg : Str → Option Value) (base : Heap) (x : Str) (k : Nat) (ps : List Str) (own : Bool) (F : FD) : Prop where
  ex : ∃ (a : Addr) (fd : FuncData), FnOk P w K mg base CXF k a fd ps (spD K own XW0 F) ∧ mg x = some (.ref a) ∧ PySem.W.keepIn K (.ref a) = true ∧ Binds K fd ps []
/-- what the head tells of a def -/
def FnF (K : PySem.W.Frag) (mg : Str → Option Value) (x : Str) (st : Stmt) (ps : List Str) : Prop := ∃ (a : Addr) (fd : FuncData), FunD K x x (defArgs st) (defBody st) (defScope st) [] [] a fd ∧ mg x = some (.ref a) ∧ Binds K fd ps []
section
variable {X : Cx} {k j : Nat} {ps : List Str} {F : FD} {x : Str} {p pos : Pos} {e : Expr} {es : List Expr} {g : EM (List D)}
theorem Cal.de (C : Cal X.prog X.w X.K X.mg X.base x k ps false F) (hr : Room k X.A) (hg : Gl X x) (ha : DA X W0 (e :: es) g) (hdb : (x == ("__debug__" : Str)) = false := by decide) (he : starEach (e :: es) X.env = (false, eval e X.env) :: starEach es X.env := by rfl) (hpl : (backTo pos (starEach es X.env)).any (·.1) = false := by rfl) :
    DE X W0 (.Call (.Name x p) (e :: es) [] pos) (eCall F g) := by
  obtain ⟨a, fd, Fo, hm, hk, hb⟩ := C.ex
  exact de_call Fo hr hg hm hk hb ha hdb he hpl
theorem Cal.do (C : Cal X.prog X.w X.K X.mg X.base x k ps true F) (hr : Room k X.A) (hg : Gl X x) (ha : DA X W0 (e :: es) g) (hdb : (x == ("__debug__" : Str)) = false := by decide) (he : starEach (e :: es) X.env = (false, eval e X.env) :: starEach es X.env := by rfl) (hpl : (backTo pos (starEach es X.env)).any (·.1) = false := by rfl) :
    DO X W0 (.Call (.Name x p) (e :: es) [] pos) (eCall F g) := by
  obtain ⟨a, fd, Fo, hm, hk, hb⟩ := C.ex
  exact do_call Fo hr hg hm hk hb ha hdb he hpl
theorem hu65 {A : Around} {k : Nat} (hr : Room k A) : A.units + 65 < cLine := by have := hr.un; omega
end
section
variable {P : Program} {w : World} {K : PySem.W.Frag} {mg : Str → Option Value} {base : Heap}
theorem cal_of {x : Str} {st : Stmt} {N ps : List Str} {k : Nat} {own : Bool} {den : SM} (F : FnF K mg x st ps) (S : FnScope N ps (defScope st))
    (hb : ∀ (f : Addr) (cdv : Value) (A : Around) (outer : List Env) (s : Shared) (H : Hp) (E : XK), Room k (A.deeper (envOfC x (defScope st) s.heap.objs.size f cdv)) → DSs (cxOf CXF P w K mg base N x (defScope st) f cdv A outer s H E).nox W0 own (defBody st) den) :
    Cal P w K mg base x (k + 1) ps own (dDef own ps.length N.length den) := by
  obtain ⟨a, fd, F, g, b⟩ := F
  exact ⟨a, fd, fn_den F S (hb a), g, F.kp, b⟩
end
/-! ### more -/
def sStuck : SM := fun _ _ => .stuck
section
variable {X : Cx} {W : WD} {own : Bool}
theorem ds_never {st : Stmt} : DS X W own st sStuck := ps_imp ps_never fun E σ H ⟨C, l, rw, G, S, hp⟩ => hp.elim
def fNeg : D → Option D
  | .int i => some (.int (-i))
  | _ => none
theorem u_neg {K : PySem.W.Frag} : UnD K (rU fun i => .int (-i)) fNeg := by
  intro o G H d1 v1 d Q s r1 e q
  unfold fNeg at e
  split at e
  case h_2 => cases e
  case h_1 i =>
    cases e
    unfold Rep at r1
    exact ⟨i, r1, q _ H G (Same.refl _) (Gr.refl s) (by unfold Rep; rfl)⟩
/-- value.method(..), nothing changed -/
def tyV' (T : String) : D → Bool
  | .str _ => T == "str"
  | .lst _ => T == "list"
  | _ => false
theorem tyV_ok {K : PySem.W.Frag} {o : Option Addr} {G H : Hp} {T : String} {d : D} {v : V} (s : Same G H) (r : Rep K o G d v) (h : tyV' T d = true) : tyV K T v H := by
  cases d with
  | str x =>
    unfold Rep at r
    subst r
    show T = "str"
    simpa [tyV'] using h
  | lst xs =>
    unfold Rep at r
    obtain ⟨a, vs, rfl, a1, _⟩ := r
    exact .inl ⟨by simpa [tyV'] using h, _, .of (s _ _ a1)⟩
  | _ => cases h
def eMeth (T : String) (f : D → List D → Option D) (g : EM D) (a : EM (List D)) : EM D := fun l rw => (g l rw).bind fun p => if tyV' T p.1 = true then (a l p.2).bind fun q => ofO (f p.1 q.1) q.2 else .stuck
def MeD (K : PySem.W.Frag) (r : V → List V → Hp → VK → Prop) (f : D → List D → Option D) : Prop := ∀ (o : Option Addr) (G H : Hp) (x : D) (ds : List D) (v : V) (vs : List V) (d : D) (Q : VK), Same G H → Rep K o G x v → Reps K o G ds vs → f x ds = some d →
  (∀ v H' G', Same H H' → Gr K o H G H' G' → Rep K o G' d v → Q v H') → r v vs H Q
theorem de_meth {e : Expr} {T : String} {r : V → List V → Hp → VK → Prop} {f : D → List D → Option D} {g : EM D} {a : EM (List D)} (h : PE X e (tBM X.K T r (tD X.K W g) (tA X.K W a))) (hf : MeD X.K r f) : DE X W e (eMeth T f g a) := by
  refine pe_imp h fun σ H Q hq => ?_
  obtain ⟨C, l, rw, G, S, hp⟩ := hq
  refine seqD (P := PEq X.K W C l σ H G Q) S hp (fun _ _ z => z) (fun z => z) fun d rw1 v H1 G1 S1 s1 r1 h1 => ?_
  dsimp only [PEq] at h1
  by_cases ht : tyV' T d = true
  case neg => rw [if_neg ht] at h1; exact h1.elim
  rw [if_pos ht] at h1
  refine ⟨tyV_ok S1.sub r1 ht, ?_⟩
  refine seqA (P := PEq X.K W C l σ H G Q) S1 h1 (fun _ _ z => z) (fun z => z) fun ds rw2 vs H2 G2 S2 s2 r2 h2 => ?_
  dsimp only [PEq] at h2
  cases e3 : f d ds with
  | none => rw [e3] at h2; exact h2.elim
  | some z =>
    rw [e3] at h2
    exact hf C.r G2 H2 d ds v vs z Q S2.sub (r1.mono s2.g) r2 e3 fun v H' G' sh g r => h2 v H' G' (S2.grow0 sh g) ((s1.trans s2).trans g) r
/-- l.index(x): the first place of an equal one -/
def firstAt (x : D) : List D → Option Nat
  | [] => none
  | y :: ys => if eqD y x = true then some 0 else (firstAt x ys).map (· + 1)
def fIndex : D → List D → Option D
  | .lst ds, [x] => if fit 8 (.lst ds) = true ∧ fit 8 x = true then (firstAt x ds).map fun j => .int (j : Nat) else none
  | _, _ => none
theorem firstAt_ok {x : D} : ∀ {ds : List D} {j : Nat}, firstAt x ds = some j → ∃ z, (toPys ds)[j]? = some z ∧ PyData.eqv z (toPy x) = true ∧ ∀ (m : Nat) (z' : PyData), m < j → (toPys ds)[m]? = some z' → PyData.eqv z' (toPy x) = false
  | [], j, h => by simp [firstAt] at h
  | y :: ys, j, h => by
    unfold firstAt at h
    split at h
    · rename_i e
      cases h
      exact ⟨toPy y, by simp [toPys], e, fun m z' hm => absurd hm (Nat.not_lt_zero _)⟩
    · rename_i e
      cases q : firstAt x ys with
      | none => rw [q] at h; cases h
      | some i =>
        rw [q] at h
        cases h
        obtain ⟨z, h1, h2, h3⟩ := firstAt_ok q
        refine ⟨z, by simpa [toPys] using h1, h2, fun m z' hm hz => ?_⟩
        cases m with
        | zero =>
          simp [toPys] at hz
          subst hz
          exact Bool.eq_false_iff.mpr e
        | succ m => exact h3 m z' (Nat.lt_of_succ_lt_succ hm) (by simpa [toPys] using hz)
theorem m_index {K : PySem.W.Frag} : MeD K (rIndexD K) fIndex := by
  intro o G H x ds v vs d Q s r1 r2 e q
  unfold fIndex at e
  split at e
  case h_2 => cases e
  case h_1 xs x =>
    split at e
    case isFalse => cases e
    case isTrue h =>
      cases e2 : firstAt x xs with
      | none => rw [e2] at e; cases e
      | some j =>
        rw [e2] at e
        cases e
        obtain ⟨u, rfl, r3⟩ := reps1 r2
        obtain ⟨z, h1, h2, h3⟩ := firstAt_ok e2
        have d1 := dp_of s 8 _ _ h.1 r1
        have s1 := fit_shaped (d := .lst xs) (by decide) h.1
        unfold Rep at r1
        obtain ⟨a, us, rfl, _⟩ := r1
        simp only [toPy] at d1 s1
        exact ⟨a, u, toPy x, toPys xs, j, z, rfl, rfl, d1, dp_of s 8 _ _ h.2 r3, s1, fit_shaped (by decide) h.2, h1, h2, h3, q _ H G (Same.refl _) (Gr.refl s) (by unfold Rep; rfl)⟩
end
/-! ### a law -/
def spL (K : PySem.W.Frag) : Sp := fun vs H Q _ => ∃ (a : Addr) (ns : List Int), vs = [.ref a] ∧ SqL K H a (ns.map V.int) ∧ LamX.Tabs (tabT K) H ∧ ns.length ≤ 63 ∧ ∀ H', Q (.bl true) H'
section
variable {P : Program} {w : World} {K : PySem.W.Frag} {mg : Str → Option Value} {base : Heap} {f : Addr} {fd : FuncData}
/-- the law's own body: it lays the row, then the rest -/
theorem law_ok {st : Stmt} {N : List Str} {x : Str} {s0 : Stmt} {rest : List Stmt} {den : SM} {k : Nat} (F : FunD K "law" "law" (defArgs st) (defBody st) (defScope st) [] [] f fd) (S : FnScope N [x] (defScope st)) (hbody : defBody st = s0 :: rest)
    (hN : 2 ≤ N.length)
    (h0 : ∀ (cdv : Value) (A : Around) (outer : List Env) (s : Shared) (H : Hp) (E : XK), PS (cxOf CXF P w K mg base N "law" (defScope st) f cdv A outer s H E).nox s0 (tAsg (tLst (tCons (tVar 0) (tCons (tC (.int 0)) (tCons (tC (.int 0)) tNil)))) (gName 1)))
    (hb : ∀ (cdv : Value) (A : Around) (outer : List Env) (s : Shared) (H : Hp) (E : XK), Room k (A.deeper (envOfC "law" (defScope st) s.heap.objs.size f cdv)) → DSs (cxOf CXF P w K mg base N "law" (defScope st) f cdv A outer s H E).nox W0 false rest den)
    (hp : ∀ ns : List Int, ns.length ≤ 63 → ∃ l' rw', den (.val (.scr ns) :: .val .row :: List.replicate (N.length - 2) .no) (some ⟨ns, 0, 0⟩) = .ok (.ret (.bl true), l', rw')) :
    FnOk P w K mg base CXF (k + 1) f fd [x] (spL K) := by
  refine F.ok S (fun vs H Q E h => by obtain ⟨a, ns, rfl, _⟩ := h; rfl) fun cdv A outer s H vs Q E hr h => ?_
  obtain ⟨a, ns, rfl, hS, hT, hl, hQ⟩ := h
  rw [hbody]
  refine ⟨_, PSs.nox (pss_locked (pss_cons (h0 cdv A outer s H E) (hb cdv A outer s H E hr))), ?_⟩
  have hst : start N [V.ref a] = some (.ref a) :: none :: List.replicate (N.length - 2) none := by
    unfold L2.start
    show [some (V.ref a)] ++ List.replicate (N.length - 1) none = _
    obtain ⟨m, hm⟩ : ∃ m, N.length = m + 2 := ⟨N.length - 2, by omega⟩
    rw [hm]
    rfl
  rw [hst]
  have hl' : ns.length ≤ sizeLine := by rw [sizeLine_eq]; omega
  have core : ∀ H1 G1 : Hp, Same G1 H1 → (∀ a o, G1 a = some o → nTb o) → LamX.Tabs (tabT K) H1 → (∀ o, Rep K o G1 (.scr ns) (.ref a)) →
      tSeq (tAsg (tLst (tCons (tVar 0) (tCons (tC (.int 0)) (tCons (tC (.int 0)) tNil)))) (gName 1)) (tS K W0 false den) { nx := fun _ H' => Q .non H', rt := Q } (some (.ref a) :: none :: List.replicate (N.length - 2) none) H1 := by
    intro H1 G1 sub gt1 hT1 hr1
    refine ⟨.ref a, rfl, by show 3 ≤ sizeLine; rw [sizeLine_eq]; decide, fun p hp0 => ?_⟩
    obtain ⟨l', rw', e⟩ := hp ns hl
    have hg0 : G1 p = none := by
      cases q : G1 p with
      | none => rfl
      | some o => have := sub _ _ q; rw [hp0] at this; cases this
    have hH : Same H1 (upd H1 p (.lst [.ref a, .int 0, .int 0])) := fun b u e => by rw [upd_ne (ne_of_none e hp0)]; exact e
    refine ⟨⟨some p, H1, G1⟩, .val (.scr ns) :: .val .row :: List.replicate (N.length - 2) .no, some ⟨ns, 0, 0⟩, G1, ⟨sub.trans hH, fun b o e _ _ => hH b o e, fun b o e => ⟨o, hH b o e⟩, TabR.new hp0 hT1, Same.refl _, fun b o e => .inl e, gt1, ?_, fun i x hi => ?_, fun i j d e q hij hi hj _ => ?_, ?_⟩, ?_⟩
    · simp
    · match i, hi with
      | 0, hi =>
        cases hi
        exact ⟨some (.ref a), rfl, .ref a, rfl, hr1 _⟩
      | 1, hi =>
        cases hi
        exact ⟨some (.ref p), rfl, .ref p, rfl, by unfold Rep; exact ⟨p, rfl, rfl⟩⟩
      | i + 2, hi =>
        have hi : (List.replicate (N.length - 2) Sl.no)[i]? = some x := hi
        rw [List.getElem?_replicate] at hi
        split at hi
        · rename_i hlt
          cases hi
          refine ⟨none, ?_, trivial⟩
          show (List.replicate (N.length - 2) (none : Option V))[i]? = some none
          rw [List.getElem?_replicate, if_pos hlt]
        · cases hi
    · match i, hi with
      | 0, hi => cases hi
      | 1, hi => cases hi
      | i + 2, hi =>
        have hi : (List.replicate (N.length - 2) Sl.no)[i]? = some (.own d) := hi
        rw [List.getElem?_replicate] at hi
        split at hi <;> cases hi
    · exact ⟨hg0, .ref a, upd_same, hr1 _⟩
    · rw [e]
      intro v σ' H' G' S' rr
      unfold RetRep at rr
      rw [if_neg Bool.false_ne_true] at rr
      unfold Rep at rr
      subst rr
      exact hQ H'
  rcases hS with (hS | ⟨ob, hS⟩) | hS
  · refine .inr ⟨a, _, hS, trivial, fun od => ?_⟩
    refine core _ (fun b => if b = a then some (.frz od (.lst (ns.map V.int))) else none) (fun b u e => ?_) (fun b u e => ?_) ((TabR.put fun u e => by rw [hS] at e; cases e; exact nTE_lst) hT) fun o => ?_
    · dsimp only at e
      by_cases hb : b = a
      · subst hb; rw [if_pos rfl] at e; rw [upd_same]; exact e
      · rw [if_neg hb] at e; cases e
    · by_cases hb : b = a
      · rw [if_pos hb] at e; cases e; exact fun _ z => nomatch z
      · rw [if_neg hb] at e; cases e
    · unfold Rep
      exact ⟨a, rfl, .inl ⟨od, if_pos rfl⟩, hl'⟩
  · refine .inl (core H (fun b => if b = a then H a else none) (fun b u e => ?_) (fun b u e => ?_) hT fun o => ?_)
    · dsimp only at e
      by_cases hb : b = a
      · subst hb; rw [if_pos rfl] at e; exact e
      · rw [if_neg hb] at e; cases e
    · by_cases hb : b = a
      · rw [if_pos hb, hS] at e; cases e; exact fun _ z => nomatch z
      · rw [if_neg hb] at e; cases e
    · unfold Rep
      exact ⟨a, rfl, .inl ⟨ob, by rw [if_pos rfl]; exact hS⟩, hl'⟩
  · refine .inl (core H (fun _ => none) (fun b u e => by cases e) (fun b u e => by cases e) hT fun o => ?_)
    unfold Rep
    exact ⟨a, rfl, .inr (.inr hS), hl'⟩
end
end HD
namespace HD
open PySem PySem.Spec L2
open PyProof.Rows hiding St
/-- no promise at all: the bottom of a recursion -/
theorem cal_zero {P : Program} {w : World} {K : PySem.W.Frag} {mg : Str → Option Value} {base : Heap} {x : Str} {st : Stmt} {ps : List Str} {own : Bool} (F : FnF K mg x st ps) : Cal P w K mg base x 0 ps own (fun _ _ => .stuck) := by
  obtain ⟨a, fd, F, g, b⟩ := F
  exact ⟨a, fd, ⟨fun vs H Q E h => by obtain ⟨r, G, ds, rw, s, q, wr, hp⟩ := h; exact hp.elim, fun A outer s H args us vs Q E _ _ _ _ h => by obtain ⟨r, G, ds, rw, s, q, wr, hp⟩ := h; exact hp.elim⟩, g, F.kp, b⟩
end HD
end
section
/-! Slices, and tuples of texts that are constants of the module. -/
namespace HD
open PySem PySem.Spec L2
open PyProof.Rows hiding St
def cutD (xs : List D) (lo hi : Option Int) : List D := (xs.drop (HT.sIx xs.length 0 lo)).take (HT.sIx xs.length xs.length hi - HT.sIx xs.length 0 lo)
def fSl : D → Option Int → Option Int → Option D
  | .lst ds, lo, hi => some (.lst (cutD ds lo hi))
  | .tup ds, lo, hi => some (.tup (cutD ds lo hi))
  | .str z, lo, hi => if z.length ≤ 100000 then some (.str (cutS z lo hi)) else none
  | _, _, _ => none
def pNone : EM (Option Int) := fun _ rw => .ok (none, rw)
def pSome (g : EM D) : EM (Option Int) := fun l rw => (g l rw).bind fun p => match p.1 with
  | .int i => .ok (some i, p.2)
  | _ => .stuck
def eSl (g : EM D) (lo hi : EM (Option Int)) : EM D := fun l rw => (g l rw).bind fun p => (lo l p.2).bind fun q => (hi l q.2).bind fun r => ofO (fSl p.1 q.1 r.1) r.2
section
variable {K : PySem.W.Frag} {o : Option Addr} {G : Hp}
theorem Reps.cut {ds : List D} {vs : List V} (h : Reps K o G ds vs) (lo hi : Option Int) : Reps K o G (cutD ds lo hi) (cutV vs lo hi) := by
  unfold cutD cutV
  rw [h.length]
  exact (h.drop _).take _
end
section
variable {X : Cx} {W : WD}
def PartPost (K : PySem.W.Frag) (W : WD) (C : C0) (l : Dl) (σ : St) (H G : Hp) (q : R (Option Int × Rw)) (Q : Option Int → Hp → Prop) : Prop :=
  match q with
  | .ok (o, rw') => ∀ H' G', SR K C l rw' σ H' G' → Gr K C.r H G H' G' → Q o H'
  | .exc x rw' => ∀ H' G', SR K C l rw' σ H' G' → W x σ H'
  | .stuck => False
def tP (K : PySem.W.Frag) (W : WD) (g : EM (Option Int)) : TO := fun σ H Q => ∃ C l rw G, SR K C l rw σ H G ∧ PartPost K W C l σ H G (g l rw) Q
def DP (X : Cx) (W : WD) (e : Option Expr) (g : EM (Option Int)) : Prop := PO X e (tP X.K W g)
theorem po_imp {e : Option Expr} {t u : TO} (h : PO X e t) (i : ∀ σ H Q, u σ H Q → t σ H Q) : PO X e u := ⟨fun pins s σ H Q I hq => h.run pins s σ H Q I (i σ H Q hq)⟩
theorem dp_none : DP X W none pNone := po_imp po_none fun σ H Q hq => by
  obtain ⟨C, l, rw, G, S, hp⟩ := hq
  exact hp H G S (Gr.refl S.sub)
theorem dp_some {e : Expr} {g : EM D} (h : DE X W e g) : DP X W (some e) (pSome g) := po_imp (po_some h) fun σ H Q hq => by
  obtain ⟨C, l, rw, G, S, hp⟩ := hq
  refine seqD (P := fun q => PartPost X.K W C l σ H G q Q) S hp (fun _ _ z => z) (fun z => z) fun d rw1 v H1 G1 S1 s1 r1 h1 => ?_
  cases d with
  | int i =>
    unfold Rep at r1
    exact ⟨i, r1, h1 H1 G1 S1 s1⟩
  | _ => exact h1.elim
theorem seqP {g : EM (Option Int)} {β : Type} {k : Option Int × Rw → R β} {P : R β → Prop} {C : C0} {l : Dl} {rw : Rw} {σ : St} {H G : Hp} {K : PySem.W.Frag} {Q' : Option Int → Hp → Prop} (S : SR K C l rw σ H G) (hp : P ((g l rw).bind k)) (hx : ∀ x w, P (.exc x w) → ∀ H' G', SR K C l w σ H' G' → W x σ H') (hs : P .stuck → False)
    (f : ∀ b rw' H' G', SR K C l rw' σ H' G' → Gr K C.r H G H' G' → P (k (b, rw')) → Q' b H') : tP K W g σ H Q' := by
  refine ⟨C, l, rw, G, S, ?_⟩
  cases e1 : g l rw with
  | exc x w => rw [e1] at hp; exact hx x w hp
  | stuck => rw [e1] at hp; exact (hs hp).elim
  | ok p =>
    obtain ⟨d, rw'⟩ := p
    rw [e1] at hp
    exact fun H' G' S' g' => f d rw' H' G' S' g' hp
def rSl3 (K : PySem.W.Frag) : V → Option Int → Option Int → Hp → VK → Prop := fun x lo hi H Q => rSlL K x lo hi H Q ∨ (rSlA K x lo hi H Q ∨ rSlS x lo hi H Q)
theorem sl_3 : SlR X (rSl3 X.K) := sl_list.or (sl_tupA.or sl_str)
theorem cutD_whole {xs : List D} {n : Nat} {lo hi : Option Int} (hn : xs.length = n) (h : HT.sIx n 0 lo = 0 ∧ HT.sIx n n hi = n) : cutD xs lo hi = xs := by
  subst hn
  unfold cutD
  rw [h.1, h.2]
  simp
theorem sl3_ok {K : PySem.W.Frag} {o : Option Addr} {G H : Hp} {d1 d : D} {v1 : V} {lo hi : Option Int} {Q : VK} (s : Same G H) (r : Rep K o G d1 v1) (e : fSl d1 lo hi = some d) (q : ∀ v H' G', Same H H' → Gr K o H G H' G' → Rep K o G' d v → Q v H') : rSl3 K v1 lo hi H Q := by
  unfold fSl at e
  split at e
  case h_4 => cases e
  case h_1 ds =>
    cases e
    unfold Rep at r
    obtain ⟨a, us, rfl, a1, a2, a3⟩ := r
    refine .inl ⟨a, us, rfl, .of (s _ _ a1), fun p hp => q _ _ _ (fun c u e => by rw [upd_ne (ne_of_none e hp)]; exact e) (Gr.new s hp) (ObjD.rep (d := .lst (cutD ds lo hi)) ⟨cutV us lo hi, rfl, Nat.le_trans (cutV_length us lo hi) a2, a3.cut lo hi⟩ (gnone_of s hp))⟩
  case h_2 ds =>
    cases e
    unfold Rep at r
    obtain ⟨a, us, rfl, a1, a2, a3⟩ := r
    refine .inr (.inl ⟨a, us, rfl, Same.seqT s a1, fun h0 => ?_, fun _ p hp => q _ _ _ (fun c u e => by rw [upd_ne (ne_of_none e hp)]; exact e) (Gr.new s hp) (ObjD.rep (d := .tup (cutD ds lo hi)) ⟨cutV us lo hi, rfl, Nat.le_trans (cutV_length us lo hi) a2, a3.cut lo hi⟩ (gnone_of s hp))⟩)
    refine q _ H G (Same.refl _) (Gr.refl s) ?_
    rw [cutD_whole a3.length h0]
    unfold Rep
    exact ⟨a, us, rfl, a1, a2, a3⟩
  case h_3 z =>
    split at e
    case isFalse => cases e
    case isTrue hz =>
      cases e
      unfold Rep at r
      subst r
      exact .inr (.inr ⟨z, rfl, by rw [sizeLine_eq]; omega, q _ H G (Same.refl _) (Gr.refl s) (by unfold Rep; rfl)⟩)
theorem de_sl {e : Expr} {g : EM D} {lo hi : Option Expr} {pl ph : EM (Option Int)} {pos p2 : Pos} (h : DE X W e g) (hl : DP X W lo pl) (hh : DP X W hi ph) : DE X W (.Subscript e (.Slice lo hi none p2) pos) (eSl g pl ph) := by
  refine pe_imp (pe_slice sl_3 h hl hh) fun σ H Q hq => ?_
  obtain ⟨C, l, rw, G, S, hp⟩ := hq
  refine seqD (P := PEq X.K W C l σ H G Q) S hp (fun _ _ z => z) (fun z => z) fun d1 rw1 v1 H1 G1 S1 s1 r1 h1 => ?_
  refine seqP (P := PEq X.K W C l σ H G Q) S1 h1 (fun _ _ z => z) (fun z => z) fun o2 rw2 H2 G2 S2 s2 h2 => ?_
  refine seqP (P := PEq X.K W C l σ H G Q) S2 h2 (fun _ _ z => z) (fun z => z) fun o3 rw3 H3 G3 S3 s3 h3 => ?_
  dsimp only [PEq] at h3
  cases e3 : fSl d1 o2 o3 with
  | none => rw [e3] at h3; exact h3.elim
  | some d =>
    rw [e3] at h3
    exact sl3_ok S3.sub ((r1.mono s2.g).mono s3.g) e3 fun v H' G' sh g r => h3 v H' G' (S3.grow0 sh g) (((s1.trans s2).trans s3).trans g) r
end
/-! ### a tuple of texts that is a constant -/
def TupC (K : PySem.W.Frag) (mg : Str → Option Value) (x : Str) (zs : List Str) : Prop := ∃ a, mg x = some (.ref a) ∧ (∀ H, SqT K H a (zs.map V.str)) ∧ zs.length ≤ sizeLine
theorem reps_str {K : PySem.W.Frag} {o : Option Addr} {G : Hp} : ∀ zs : List Str, Reps K o G (zs.map D.str) (zs.map V.str)
  | [] => Reps.nil
  | z :: zs => Reps.cons (by unfold Rep; rfl) (reps_str zs)
theorem de_gtup {X : Cx} {W : WD} {x : Str} {zs : List Str} {pos : Pos} (hg : Gl X x) (hm : TupC X.K X.mg x zs) (hd : (x == ("__debug__" : Str)) = false := by decide) : DE X W (.Name x pos) (eK (.tup (zs.map D.str))) := by
  obtain ⟨a, h1, h2, h3⟩ := hm
  exact de_gref hg h1 (fun o G => by unfold Rep; exact ⟨a, zs.map V.str, rfl, h2 G, by rw [List.length_map]; exact h3, reps_str zs⟩) hd
theorem tupC_of {K : PySem.W.Frag} {h : Heap} {mg : Str → Option Value} (X : K.In h) (G : h.Ns mainGlobals mg) {x : Str} (c : (He.Fa.glo x).ok K = true) {zs : List Str} (t : He.tupB K x (zs.map He.Dv.str) = true) (hz : zs.length ≤ 100000) : TupC K mg x zs := by
  refine ⟨He.ga K x, He.glo_ok X G c, fun H => ?_, by rw [sizeLine_eq]; omega⟩
  have := He.tupB_ok t H
  rw [List.map_map] at this
  exact this
/-! ### a Hook with a test of one's own -/
abbrev AlC : Type := He.AlD × Bool
def obC (n : Nat) (fa : List He.Fa) (fn : List He.DefD) (ex : PySem.W.Frag → Bool) (g : Addr → Option Obj) : AlC := (He.obsDG n fa fn g, ex (He.frG g (He.asD g n)))
def hookC (n : Nat) (fa : List He.Fa) (fn : List He.DefD) (ex : PySem.W.Frag → Bool) : PySem.W.Hook where
  α := AlC
  obs := fun s => obC n fa fn ex s.heap.get?
  val := fun _ => (He.valD fn, true)
  says := fun _ h => ∃ K : PySem.W.Frag, K.In h ∧ He.SaysD fa fn K ∧ ex K = true
  of := fun _ _ e => ⟨_, He.frG_in, congrArg Prod.fst e, congrArg Prod.snd e⟩
  keeps := fun _ _ _ ⟨K, hK, c⟩ k => ⟨K, PySem.W.Frag.In.keeps hK k, c⟩
theorem obC_eq {n : Nat} {fa : List He.Fa} {fn : List He.DefD} {ex : PySem.W.Frag → Bool} {g : Addr → Option Obj} {s : Shared} (h : ∀ a, g a = s.heap.get? a) : obC n fa fn ex g = (hookC n fa fn ex).obs s := by
  have e : g = s.heap.get? := funext h
  rw [e] <;> rfl
end HD
end
section
/-! Texts: str of a number, int of a text, join, split, one sign in a text. -/
namespace HD
open PySem PySem.Spec L2
open PyProof.Rows hiding St
section
variable {K : PySem.W.Frag}
def fStr : List D → Option D
  | [.int i] => if i.natAbs ≤ 1000 then some (.str (toString i)) else none
  | _ => none
theorem a_str : ArD K (fun xs H Q => ∃ i : Int, xs = [.int i] ∧ i.natAbs.log2 < 1920 ∧ Q (.str (toString i)) H) fStr := by
  intro o G H ds vs d Q s r e q
  unfold fStr at e
  split at e
  case h_2 => cases e
  case h_1 i =>
    split at e
    case isFalse => cases e
    case isTrue h =>
      cases e
      obtain ⟨v, rfl, r1⟩ := reps1 r
      unfold Rep at r1
      subst r1
      exact ⟨i, rfl, Nat.lt_of_le_of_lt (Nat.log2_le_self _) (by omega), q _ H G (Same.refl _) (Gr.refl s) (by unfold Rep; rfl)⟩
def fInt : List D → Option D
  | [.str a] => if a.length ≤ 640 then (PySem.intText? a).map .int else none
  | _ => none
theorem a_int : ArD K (fun xs H Q => ∃ a n, xs = [.str a] ∧ PySem.intText? a = some n ∧ a.length ≤ 640 ∧ Q (.int n) H) fInt := by
  intro o G H ds vs d Q s r e q
  unfold fInt at e
  split at e
  case h_2 => cases e
  case h_1 a =>
    split at e
    case isFalse => cases e
    case isTrue h =>
      cases hn : PySem.intText? a with
      | none => rw [hn] at e; cases e
      | some n =>
        rw [hn] at e
        cases e
        obtain ⟨v, rfl, r1⟩ := reps1 r
        unfold Rep at r1
        subst r1
        exact ⟨a, n, rfl, hn, h, q _ H G (Same.refl _) (Gr.refl s) (by unfold Rep; rfl)⟩
def toStrs : List D → Option (List Str)
  | [] => some []
  | .str x :: ds => (toStrs ds).map (x :: ·)
  | _ :: _ => none
theorem toStrs_ok {o : Option Addr} {G : Hp} : ∀ {ds : List D} {ys : List Str} {vs : List V}, toStrs ds = some ys → Reps K o G ds vs → vs = ys.map V.str
  | [], ys, vs, h, r => by
    cases h
    unfold Reps at r
    exact r
  | d :: ds, ys, vs, h, r => by
    unfold Reps at r
    obtain ⟨v, t, rfl, r1, r2⟩ := r
    cases d with
    | str x =>
      unfold toStrs at h
      cases q : toStrs ds with
      | none => rw [q] at h; cases h
      | some zs =>
        rw [q] at h
        cases h
        unfold Rep at r1
        subst r1
        rw [toStrs_ok q r2]
        rfl
    | _ => cases h
def fJoin : D → List D → Option D
  | .str a, [.lst ds] => (toStrs ds).bind fun ys => if (ys.map (·.length)).sum + ys.length * a.length ≤ 100000 then some (.str (Txt.join a ys)) else none
  | _, _ => none
theorem m_join : MeD K (fun x xs H Q => ∃ a p, ∃ ys : List Str, x = .str a ∧ xs = [.ref p] ∧ (SqL K H p (ys.map V.str) ∨ SqT K H p (ys.map V.str)) ∧
    (ys.map (·.length)).sum + ys.length * a.length ≤ 16777216 ∧ Q (.str (Txt.join a ys)) H) fJoin := by
  intro o G H x ds v vs d Q s r1 r2 e q
  unfold fJoin at e
  split at e
  case h_2 => cases e
  case h_1 a ds =>
    cases h1 : toStrs ds with
    | none => rw [h1] at e; cases e
    | some ys =>
      rw [h1] at e
      simp only [Option.bind_some] at e
      split at e
      case isFalse => cases e
      case isTrue hz =>
        cases e
        obtain ⟨u, rfl, r3⟩ := reps1 r2
        unfold Rep at r1
        subst r1
        unfold Rep at r3
        obtain ⟨b, us, rfl, a1, a2, a3⟩ := r3
        rw [toStrs_ok h1 a3] at a1
        exact ⟨a, b, ys, rfl, rfl, .inl (.of (s _ _ a1)), by omega, q _ H G (Same.refl _) (Gr.refl s) (by unfold Rep; rfl)⟩
def fSplit : D → List D → Option D
  | .str a, [.str b] => if (b.length == 0) = false ∧ a.length ≤ 100000 then some (.lst ((Txt.split a b).map .str)) else none
  | _, _ => none
theorem m_split : MeD K (fun x xs H Q => ∃ a b, x = .str a ∧ xs = [.str b] ∧ (b.length == 0) = false ∧ a.length + 2 ≤ sizeLine ∧ rNewStrs (Txt.split a b) H Q) fSplit := by
  intro o G H x ds v vs d Q s r1 r2 e q
  unfold fSplit at e
  split at e
  case h_2 => cases e
  case h_1 a b =>
    split at e
    case isFalse => cases e
    case isTrue hz =>
      cases e
      obtain ⟨u, rfl, r3⟩ := reps1 r2
      unfold Rep at r1 r3
      subst r1 r3
      have hs : a.length + 2 ≤ sizeLine := by rw [sizeLine_eq]; omega
      exact ⟨a, b, rfl, rfl, hz.1, hs, fun p hp => q _ _ _ (fun c u e => by rw [upd_ne (ne_of_none e hp)]; exact e) (Gr.new s hp)
        (ObjD.rep (d := .lst ((Txt.split a b).map .str)) ⟨(Txt.split a b).map V.str, rfl, by rw [List.length_map]; exact Nat.le_trans (PyProof.Rows.split_le a b) hs, reps_str _⟩ (gnone_of s hp))⟩
def fInS (neg : Bool) : D → D → Option D
  | .str x, .str z => match x.cps.toList with
    | [c] => some (.bl (if neg = true then !decide (c ∈ z.cps.toList) else decide (c ∈ z.cps.toList)))
    | _ => none
  | _, _ => none
theorem c_notInS : CmpD K (fun x y H Q => ∃ (c : Nat) (z : Str), x = .str ⟨#[c]⟩ ∧ y = .str z ∧ Q (.bl (!decide (c ∈ z.cps.toList))) H) (fInS true) := by
  intro o G H d1 d2 v1 v2 d Q s r1 r2 e q
  unfold fInS at e
  split at e
  case h_2 => cases e
  case h_1 x z =>
    split at e
    case h_2 => cases e
    case h_1 c hc =>
      cases e
      unfold Rep at r1 r2
      subst r1 r2
      have hx : x = ⟨#[c]⟩ := by
        obtain ⟨⟨l⟩⟩ := x
        have : l = [c] := hc
        subst this
        rfl
      subst hx
      exact ⟨c, z, rfl, rfl, q _ (by unfold Rep; rfl)⟩
end
end HD
end
section
/-! max(numbers, default=k). -/
namespace MxD
open PySem
open Sem (wp)
theorem lname : (toString "max" ++ toString ".loop" : String) = "max.loop" := by decide
theorem margs (a d : Value) : argsOk "max" ⟨[a], [(Str.ofString "default", d)]⟩ := by unfold argsOk; first | rfl | kernel_rfl
theorem mbind (d : Value) : Builtin.Builtins.bindParams "max" ["key", "default"] 0 ⟨[], [(Str.ofString "default", d)]⟩ = pure [none, some d] := by first | rfl | kernel_rfl
section
variable {prog : Program} {w : World} {A : Around} {Rz : Result → Shared → Prop} {J : Addr} {fp wr : List Addr} {n : Nat} {P : Nat → Value → Prop} {St : Nat → Heap → Prop} {d : Value}
theorem loopM (wk : Walks prog w A.in1 J fp wr n P St) (bt : Nat → Nat → Bool) (cm : CmpOf prog w A.in1 .Gt P bt) (B : Addr) (nB : B ∉ fp) :
    ∀ (k j : Nat) (s : Shared) (vb : Value) (c : Nat), n - (j + 1) = k → j + 1 ≤ n → St (j + 1) s.heap → P (argBest bt j) vb →
    s.heap.get? B = some { cls := .type "list", dict := none, data := .seq #[vb, vb] c, slots := #[] } →
    (∀ v h' tk, P (argBest bt (n - 1)) v → (∀ b o, b ∉ wr → b ≠ B → s.heap.get? b = some o → h'.get? b = some o) → Rz (.ok (.ret v)) { s with heap := h', toks := tk }) →
    codeAny (model prog w) A (.builtin "max.loop" ⟨[.ref J, .none, .ref B], [(Str.ofString "default", d)]⟩) Rz s := by
  have nBw : B ∉ wr := fun z => nB (wk.sub _ z)
  intro k
  induction k with
  | zero =>
    intro j s vb c k1 k2 k3 k4 k5 k6
    have jn : j + 1 = n := by omega
    refine codeAny_builtin F.entry_max_loop ?_ ; rw [Around.under_plainId F.plain_max_loop _]
    show wpAny _ A.in1 (seqItems? (.ref B) >>= _) _ _ s
    refine wpAny_bind (wpAny_seqItems k5 rfl ?_) ; show wpAny _ A.in1 (tryCatch (pyNext (.ref J)) _ >>= _) _ _ s
    refine wpAny_bind (wpAny_tryCatch (wk.done s _ _ (jn ▸ k3) fun hz tz kz => ?_))
    have k5z := kz B _ nBw k5
    show wpAny _ A.in1 (updateSeq B (fun _ => #[]) >>= _) _ _ _
    refine wpAny_bind (wpAny_updateSeq k5z rfl (wpAny_bind (wpAny_letGo (wpAny_pure ?_))))
    exact k6 vb _ tz (by rw [← jn]; exact k4) fun b o z1 z2 e => (Heap.get?_update_other _ _ (Ne.symm z2)).trans (kz b o z1 e)
  | succ k ih =>
    intro j s vb c k1 k2 k3 k4 k5 k6
    have jn : j + 1 < n := by omega
    refine codeAny_builtin F.entry_max_loop ?_ ; rw [Around.under_plainId F.plain_max_loop _]
    show wpAny _ A.in1 (seqItems? (.ref B) >>= _) _ _ s
    refine wpAny_bind (wpAny_seqItems k5 rfl ?_) ; show wpAny _ A.in1 (tryCatch (pyNext (.ref J)) _ >>= _) _ _ s
    refine wpAny_bind (wpAny_tryCatch (wk.item (j + 1) s _ _ jn k3 fun v hz tz pz sz kz => ?_))
    have k5z := kz B _ nBw k5
    show wpAny _ A.in1 (tryCatch (holding [v, v] (richCompare .Gt v vb >>= _)) _ >>= _) _ _ _
    refine wpAny_bind (wpAny_tryCatch (wpAny_holding (wpAny_bind (cm (j + 1) (argBest bt j) v vb _ _ _ pz k4 ?_))))
    refine wpAny_bind (wpAny_holding (wpAny_truthy_bool ?_)) ; refine wpAny_bind (wpAny_letGo (wpAny_pure ?_))
    cases hb : bt (j + 1) (argBest bt j) with
    | true =>
      simp only [if_true]
      refine wpAny_bind ?_ ; refine wpAny_updateSeq k5z rfl ?_ ; refine wpAny_bind (wpAny_letGo ?_)
      rw [lname]
      refine wpAny_pure ⟨plainId_quiet F.plain_max_loop _, ih (j + 1) _ v _ (by omega) jn (wk.frame _ _ _ sz fun b z1 o e => (Heap.get?_update_other _ _ (fun z : B = b => nB (by rw [z]; exact z1))).trans e) (by simp only [argBest, hb, if_true]; exact pz) (Heap.get?_update_self _ k5z rfl) fun v2 h2 t2 p2 q2 => ?_⟩
      exact k6 v2 h2 t2 p2 fun b o z1 z2 e => q2 b o z1 z2 ((Heap.get?_update_other _ _ (Ne.symm z2)).trans (kz b o z1 e))
    | false =>
      simp only [Bool.false_eq_true, if_false]
      refine wpAny_bind (wpAny_letGo ?_)
      rw [lname]
      refine wpAny_pure ⟨plainId_quiet F.plain_max_loop _, ih (j + 1) _ vb c (by omega) jn sz (by simp only [argBest, hb, Bool.false_eq_true, if_false]; exact k4) k5z fun v2 h2 t2 p2 q2 => ?_⟩
      exact k6 v2 h2 t2 p2 fun b o z1 z2 e => q2 b o z1 z2 (kz b o z1 e)
theorem loopF (wk : Walks prog w A.in1 J fp wr n P St) (bt : Nat → Nat → Bool) (cm : CmpOf prog w A.in1 .Gt P bt) (B : Addr) (nB : B ∉ fp) {s : Shared} {c : Nat} (k3 : St 0 s.heap)
    (k5 : s.heap.get? B = some { cls := .type "list", dict := none, data := .seq #[] c, slots := #[] })
    (k0 : n = 0 → ∀ h' tk, (∀ b o, b ∉ wr → b ≠ B → s.heap.get? b = some o → h'.get? b = some o) → Rz (.ok (.ret d)) { s with heap := h', toks := tk })
    (k6 : 0 < n → ∀ v h' tk, P (argBest bt (n - 1)) v → (∀ b o, b ∉ wr → b ≠ B → s.heap.get? b = some o → h'.get? b = some o) → Rz (.ok (.ret v)) { s with heap := h', toks := tk }) :
    codeAny (model prog w) A (.builtin "max.loop" ⟨[.ref J, .none, .ref B], [(Str.ofString "default", d)]⟩) Rz s := by
  have nBw : B ∉ wr := fun z => nB (wk.sub _ z)
  refine codeAny_builtin F.entry_max_loop ?_ ; rw [Around.under_plainId F.plain_max_loop _]
  show wpAny _ A.in1 (seqItems? (.ref B) >>= _) _ _ s
  refine wpAny_bind (wpAny_seqItems k5 rfl ?_) ; show wpAny _ A.in1 (tryCatch (pyNext (.ref J)) _ >>= _) _ _ s
  by_cases hn : n = 0
  · refine wpAny_bind (wpAny_tryCatch (wk.done s _ _ (hn ▸ k3) fun hz tz kz => ?_))
    show wpAny _ A.in1 (rule _ >>= _) _ _ _
    exact wpAny_bind (wpAny_rule (wpAny_pure (k0 hn _ tz fun b o z1 z2 e => kz b o z1 e)))
  · have hn : 0 < n := by omega
    refine wpAny_bind (wpAny_tryCatch (wk.item 0 s _ _ hn k3 fun v hz tz pz sz kz => ?_))
    have k5z := kz B _ nBw k5
    show wpAny _ A.in1 (updateSeq B (fun _ => #[v, v]) >>= _) _ _ _
    refine wpAny_bind (wpAny_updateSeq k5z rfl ?_)
    rw [lname]
    refine wpAny_pure ⟨plainId_quiet F.plain_max_loop _, loopM wk bt cm B nB _ 0 _ v _ rfl hn (wk.frame _ _ _ sz fun b z1 o e => (Heap.get?_update_other _ _ (fun z : B = b => nB (by rw [z]; exact z1))).trans e) pz (Heap.get?_update_self _ k5z rfl) fun v2 h2 t2 p2 q2 => ?_⟩
    exact k6 hn v2 h2 t2 p2 fun b o z1 z2 e => q2 b o z1 z2 ((Heap.get?_update_other _ _ (Ne.symm z2)).trans (kz b o z1 e))
end
section
variable {prog : Program} {w : World} {A : Around} {E : Value → Shared → Prop} {s : Shared} {d : Value}
theorem treeK {id : String} {b : Builtin} {args : List Value} {kw : List (Str × Value)} {Q : Value → Shared → Prop} (k1 : builtinKind id = none) (k2 : plainId id = true) (k3 : entryFor table id = some b) (k4 : argsOk id ⟨args, kw⟩)
    (k5 : wpAny (model prog w) A.in1 (b ⟨args, kw⟩) (fun fin s' => match fin with
      | .done f => (match (Except.ok f : Result) with | .ok (.ret v) => Q v s' | .ok _ => False | .error e => E e s')
      | .again c2 => c2.quiet = true ∧ codeAny (model prog w) A c2 (fun r s' => match r with | .ok (.ret v) => Q v s' | .ok _ => False | .error e => E e s') s') E s) :
    wpAny (model prog w) A (call (.builtin id) args kw) Q E s := by
  refine wpAny_call (codeAny_call_builtin k2 k3 ?_) ; simp only [checkBuiltinCall, k1]
  cases q : Manifest.signature? id with
  | none => exact wpAny_pure k5
  | some sig =>
    simp only [argsOk, q] at k4
    have z : Bind.checkArgs id sig ⟨args, kw⟩ = pure () := k4
    show wpAny _ A.in1 (Bind.checkArgs id sig ⟨args, kw⟩) _ _ s ; rw [z] ; exact wpAny_pure k5
theorem callM {x : Value} {Q : Value → Shared → Prop}
    (h : wpAny (model prog w) A.in1 (pyIter x) (fun it s2 => ∃ J fp wr n P St bt, it = .ref J ∧ Walks prog w A.in1 J fp wr n P St ∧ St 0 s2.heap ∧ (∀ b ∈ fp, b < s2.heap.objs.size) ∧ CmpOf prog w A.in1 .Gt P bt ∧
      (n = 0 → ∀ h' tk, (∀ b o, b ∉ wr → s2.heap.get? b = some o → h'.get? b = some o) → Q d { s2 with heap := h', toks := tk }) ∧
      (0 < n → ∀ v h' tk, P (argBest bt (n - 1)) v → (∀ b o, b ∉ wr → s2.heap.get? b = some o → h'.get? b = some o) → Q v { s2 with heap := h', toks := tk })) E s) :
    wpAny (model prog w) A (call (.builtin "max") [x] [(Str.ofString "default", d)]) Q E s := by
  refine treeK F.kind_max F.plain_max F.entry_max (margs _ _) ?_
  show wpAny _ A.in1 (Builtin.Builtins.bindParams "max" ["key", "default"] 0 ⟨[], [(Str.ofString "default", d)]⟩ >>= _) _ _ s
  refine wpAny_bind (wpAny_of_eq (mbind d) (wpAny_bind (wpAny_pure (wpAny_bind (wpAny_mono h (fun it s2 h2 => ?_) fun _ _ e => e)))))
  obtain ⟨J, fp, wr, n, P, St, bt, rfl, wk, k3, k7, cm, q0, q1⟩ := h2
  refine wpAny_bind (wpAny_newObj_type ?_)
  have nB : s2.heap.objs.size ∉ fp := fun z => Nat.lt_irrefl _ (k7 _ z)
  rw [lname]
  refine wpAny_pure ⟨plainId_quiet F.plain_max_loop _, loopF wk bt cm s2.heap.objs.size nB (wk.frame _ _ _ k3 fun b z o e => Heap.get?_push_of_some _ e) (Heap.get?_push_size _ rfl) (fun z h' tk kz => ?_) fun z v h' tk pz kz => ?_⟩
  · exact q0 z h' tk fun b o z1 e => kz b o z1 (Nat.ne_of_lt (Heap.lt_size e)) (Heap.get?_push_of_some _ e)
  · exact q1 z v h' tk pz fun b o z1 e => kz b o z1 (Nat.ne_of_lt (Heap.lt_size e)) (Heap.get?_push_of_some _ e)
theorem intsM {l : Addr} {xs : Array (Int × Tok)} {Q : Value → Shared → Prop} (hh : A.handled = none) (hl : s.heap.IsList l (intItems xs))
    (h0 : xs.size = 0 → ∀ h' tk, (∀ b o, s.heap.get? b = some o → h'.get? b = some o) → Q d { s with heap := h', toks := tk })
    (h1 : 0 < xs.size → ∀ v h' tk, (intItems xs)[argBest (fun i j => decide (numAt xs i > numAt xs j)) (xs.size - 1)]? = some v → (∀ b o, s.heap.get? b = some o → h'.get? b = some o) → Q v { s with heap := h', toks := tk }) :
    wpAny (model prog w) A (call (.builtin "max") [.ref l] [(Str.ofString "default", d)]) Q E s := by
  refine callM (iter_intList hl fun s2 e st hfp hlI => ?_)
  subst e
  refine ⟨_, _, _, _, _, _, _, rfl, Walks.list (A := A.in1) hh _ l hlI (intItems xs), st, hfp, CmpOf.ints_gt (numAt xs) (fun _ _ => intItems_at), fun z h' tk hk => ?_, fun z v h' tk hP hk => ?_⟩
  · exact h0 (by simpa [intItems] using z) h' tk (old_kept hk)
  · exact h1 (by simpa [intItems] using z) v h' tk (by simpa [intItems] using hP) (old_kept hk)
end
end MxD

namespace HD
open PySem PySem.Spec L2
open PyProof.Rows hiding St
def maxI (k : Int) : List Int → Int
  | [] => k
  | [x] => x
  | x :: y :: r => if maxI k (y :: r) ≤ x then x else maxI k (y :: r)
theorem maxI_ok (k : Int) : ∀ ns : List Int, ns ≠ [] → maxI k ns ∈ ns ∧ ∀ y ∈ ns, y ≤ maxI k ns
  | [], h => absurd rfl h
  | [x], _ => ⟨by simp [maxI], fun y hy => by simp at hy; subst hy; exact Int.le_refl _⟩
  | x :: z :: r, _ => by
    obtain ⟨h1, h2⟩ := maxI_ok k (z :: r) (by simp)
    unfold maxI
    by_cases h : maxI k (z :: r) ≤ x
    · rw [if_pos h]
      refine ⟨by simp, fun y hy => ?_⟩
      rcases List.mem_cons.mp hy with rfl | hy
      · exact Int.le_refl _
      · exact Int.le_trans (h2 y hy) h
    · rw [if_neg h]
      refine ⟨List.mem_cons_of_mem _ h1, fun y hy => ?_⟩
      rcases List.mem_cons.mp hy with rfl | hy
      · omega
      · exact h2 y hy
theorem maxI_eq {k m : Int} {ns : List Int} (h0 : ns = [] → m = k) (h1 : ns ≠ [] → m ∈ ns ∧ ∀ y ∈ ns, y ≤ m) : m = maxI k ns := by
  by_cases e : ns = []
  · subst e; exact h0 rfl
  · obtain ⟨a, b⟩ := h1 e
    obtain ⟨c, d⟩ := maxI_ok k ns e
    exact Int.le_antisymm (d m a) (b _ c)
def fMax1 : List D → Option D
  | [.lst ds] => match toInts ds with
    | some [] => none
    | some (n :: ns) => some (.int (maxI 0 (n :: ns)))
    | none => none
  | _ => none
def fMaxD (k : Int) : List D → Option D
  | [.lst ds] => (toInts ds).map fun ns => .int (maxI k ns)
  | _ => none
section
variable {K : PySem.W.Frag}
theorem reps_ints {o : Option Addr} {G : Hp} : ∀ {ns : List Int} {vs : List V}, Reps K o G (ns.map D.int) vs → vs = ns.map V.int
  | [], vs, r => by unfold Reps at r; exact r
  | n :: ns, vs, r => by
    rw [List.map_cons] at r
    unfold Reps at r
    obtain ⟨v, t, rfl, r1, r2⟩ := r
    unfold Rep at r1
    subst r1
    rw [reps_ints r2]
    rfl
theorem a_max1 : ArD K (rMax K) fMax1 := by
  intro o G H ds vs d Q s r e q
  unfold fMax1 at e
  split at e
  case h_2 => cases e
  case h_1 xs =>
    split at e
    case h_1 => cases e
    case h_3 => cases e
    case h_2 n ns h1 =>
      cases e
      obtain ⟨v, rfl, r1⟩ := reps1 r
      have hx := toInts_eq h1
      subst hx
      unfold Rep at r1
      obtain ⟨a, us, rfl, a1, a2, a3⟩ := r1
      rw [reps_ints a3] at a1
      refine ⟨a, n :: ns, rfl, .of (s _ _ a1), by simp, fun m m1 m2 => ?_⟩
      have hm : m = maxI 0 (n :: ns) := maxI_eq (fun z => by cases z) fun _ => ⟨m1, m2⟩
      rw [hm]
      exact q _ H G (Same.refl _) (Gr.refl s) (by unfold Rep; rfl)
end
def fIntB : List D → Option D
  | [.bl b] => some (.int (if b then 1 else 0))
  | _ => none
theorem a_intb {K : PySem.W.Frag} : ArD K (fun xs H Q => (∃ i, xs = [.int i] ∧ Q (.int i) H) ∨ ∃ k : Bool, xs = [.bl k] ∧ Q (.int (if k then 1 else 0)) H) fIntB := by
  intro o G H ds vs d Q s r e q
  unfold fIntB at e
  split at e
  case h_2 => cases e
  case h_1 b =>
    cases e
    obtain ⟨v, rfl, r1⟩ := reps1 r
    unfold Rep at r1
    subst r1
    exact .inr ⟨b, rfl, q _ H G (Same.refl _) (Gr.refl s) (by unfold Rep; rfl)⟩
def rMaxDef (K : PySem.W.Frag) (k : Int) : List V → List V → Hp → VK → Prop := fun vs zs H Q => ∃ (a : Addr) (ns : List Int), vs = [.ref a] ∧ zs = [.int k] ∧ SqL K H a (ns.map V.int) ∧ Q (.int (maxI k ns)) H
section
variable {X : Cx} {W : WD}
theorem cr_maxDef {k : Int} (hc : X.calm = true) : CallRK X (.builtin "max") [Str.ofString "default"] (rMaxDef X.K k) := by
  intro pins s σ H vs zs us ws Q I r rz h
  obtain ⟨a, ns, rfl, rfl, hs, q⟩ := h
  obtain rfl := Vals.ref1 r
  obtain ⟨w1, rfl, t1, rfl⟩ := vals1 rz
  obtain ⟨its, rv, hl, _⟩ := I.list hs
  have hi := rv.ints
  obtain ⟨xs, e⟩ := hi.allInts.items
  have hn : numsOf (intItems xs).toList = ns := by rw [← e]; exact hi.numsOf
  rw [nums_intItems] at hn
  subst hn
  have hl := hl.isList
  rw [e] at hl
  refine MxD.intsM (I.ok.hd hc) hl (fun h0 h' tk hk => ?_) fun h1 v h' tk hv hk => ?_
  · refine ⟨.int k, H, I.kept hk, ⟨_, rfl⟩, ?_⟩
    have e0 : k = maxI k (List.map (·.1) xs.toList) := maxI_eq (fun _ => rfl) fun z => by
      refine absurd ?_ z
      rw [List.map_eq_nil_iff]
      exact List.length_eq_zero_iff.mp (by rw [Array.length_toList]; exact h0)
    rw [e0]
    exact q
  · obtain ⟨t, rfl⟩ := intItems_at hv
    obtain ⟨b1, b2⟩ := argBest_gt (numAt xs) (xs.size - 1)
    refine ⟨.int _, H, I.kept hk, ⟨_, rfl⟩, ?_⟩
    have e0 := maxI_eq (k := k) (m := numAt xs (argBest (fun i j => decide (numAt xs i > numAt xs j)) (xs.size - 1))) (ns := List.map (·.1) xs.toList) (fun z => by
      have := congrArg List.length z
      rw [List.length_map, Array.length_toList, List.length_nil] at this
      omega) fun _ => ⟨by rw [numAt_eq]; exact PySem.getD_mem (by rw [List.length_map, Array.length_toList]; omega), fun y hy => by
        obtain ⟨j, hj, rfl⟩ := mem_getD hy
        rw [List.length_map, Array.length_toList] at hj
        rw [← numAt_eq]; exact b2 j (by omega)⟩
    rw [e0]
    exact q
theorem de_maxD {x : Str} {p pos j kpos : Pos} {e : Expr} {k : Int} {g : EM (List D)} {i : Nat} (hc : X.calm = true) (hg : Gl X x) (hm : X.mg x = none) (hv : bootBuiltins x = some (.builtin "max")) (ha : DA X W [e] g) (hn : x ≠ "__name__" := by decide) (hdb : (x == ("__debug__" : Str)) = false := by decide)
    (he : backTo pos (starEach [e] X.env) = (false, eval e X.env) :: backTo pos (starEach [] X.env) := by rfl) (hpl : (backTo pos (starEach [e] X.env)).any (·.1) = false := by rfl) :
    DE X W (.Call (.Name x p) [e] [⟨some (Str.ofString "default"), .Constant (.int k) i j, kpos⟩] pos) (eArgs (fMaxD k) g) := by
  refine pe_imp (pe_callBK (cr_maxDef (k := k) hc) hg hm hv ha (pk_cons pe_int pk_nil) hn hdb he hpl) fun σ H Q hq => ?_
  obtain ⟨C, l, rw, G, S, hp⟩ := hq
  refine seqA (P := PEq X.K W C l σ H G Q) S hp (fun _ _ z => z) (fun z => z) fun ds rw1 vs H1 G1 S1 s1 r1 h1 => ?_
  dsimp only [PEq] at h1
  cases e3 : fMaxD k ds with
  | none => rw [e3] at h1; exact h1.elim
  | some d =>
    rw [e3] at h1
    unfold fMaxD at e3
    split at e3
    case h_2 => cases e3
    case h_1 xs =>
      cases e4 : toInts xs with
      | none => rw [e4] at e3; cases e3
      | some ns =>
        rw [e4] at e3
        cases e3
        obtain ⟨v, rfl, r2⟩ := reps1 r1
        have hx := toInts_eq e4
        subst hx
        unfold Rep at r2
        obtain ⟨a, us, rfl, a1, a2, a3⟩ := r2
        rw [reps_ints a3] at a1
        exact ⟨a, ns, rfl, rfl, .of (S1.sub _ _ a1), h1 (.int (maxI k ns)) H1 G1 S1 s1 (by unfold Rep; rfl)⟩
end
end HD
end
section
/-! The data layer: dicts of whole-number keys. -/
namespace HD
open PySem PySem.Spec L2
open PyProof.Rows hiding St
/-! ### what a dict tells -/
def lkD : List Int → List D → Int → Option D
  | k' :: ks, x :: xs, k => if k' = k then some x else lkD ks xs k
  | _, _, _ => none
def stD : List Int → List D → Int → D → List D
  | k' :: ks, x :: xs, k, d => (if k' = k then d else x) :: stD ks xs k d
  | _, _, _, _ => []
def putKs (ks : List Int) (k : Int) : List Int := if k ∈ ks then ks else ks ++ [k]
def putXs (ks : List Int) (xs : List D) (k : Int) (d : D) : List D := if k ∈ ks then stD ks xs k d else xs ++ [d]
section
variable {K : PySem.W.Frag} {r : Option Addr} {G : Hp}
theorem lk_ok : ∀ {kvs : List (Key × V)} {ks : List Int} {xs : List D}, kvs.map (·.1) = ks.map Sum.inl → Reps K r G xs (kvs.map (·.2)) → ∀ k : Int,
    (∀ d, lkD ks xs k = some d → ∃ v, valV kvs (Sum.inl k : Key) = some v ∧ Rep K r G d v) ∧ (lkD ks xs k = none → valV kvs (Sum.inl k : Key) = none)
  | [], ks, xs, h1, h2, k => by
    have e1 : ks = [] := by
      cases ks with
      | nil => rfl
      | cons _ _ => simp at h1
    subst e1
    exact ⟨fun d h => by simp [lkD] at h, fun _ => valV_nil⟩
  | p :: kvs, ks, xs, h1, h2, k => by
    cases ks with
    | nil => simp at h1
    | cons k' ks =>
      rw [List.map_cons, List.map_cons] at h1
      injection h1 with h1 h1'
      cases xs with
      | nil => have := h2.length; simp at this
      | cons x xs =>
        rw [List.map_cons] at h2
        unfold Reps at h2
        obtain ⟨v, t, e, r1, r2⟩ := h2
        injection e with e1 e2
        subst e1 e2
        obtain ⟨i1, i2⟩ := lk_ok h1' r2 k
        by_cases hk : k' = k
        · subst hk
          refine ⟨fun d h => ?_, fun h => ?_⟩
          · simp only [lkD, if_true] at h
            cases h
            exact ⟨p.2, valV_pos h1, r1⟩
          · simp [lkD] at h
        · have ne : ¬ p.1 = (Sum.inl k : Key) := fun z => hk (Sum.inl.inj (h1.symm.trans z))
          refine ⟨fun d h => ?_, fun h => ?_⟩
          · simp only [lkD, if_neg hk] at h
            obtain ⟨v, a, b⟩ := i1 d h
            exact ⟨v, by rw [valV_neg ne]; exact a, b⟩
          · simp only [lkD, if_neg hk] at h
            rw [valV_neg ne]; exact i2 h
theorem any_key {kvs : List (Key × V)} : ∀ {ks : List Int}, kvs.map (·.1) = ks.map Sum.inl → ∀ k : Int, (kvs.any fun kv => decide (kv.1 = (Sum.inl k : Key))) = decide (k ∈ ks) := by
  induction kvs with
  | nil =>
    intro ks h k
    cases ks with
    | nil => rfl
    | cons _ _ => simp at h
  | cons p kvs ih =>
    intro ks h k
    cases ks with
    | nil => simp at h
    | cons k' ks =>
      rw [List.map_cons, List.map_cons] at h
      injection h with h1 h2
      rw [List.any_cons, ih h2 k]
      by_cases hk : k = k'
      · subst hk
        rw [decide_eq_true h1]; simp
      · rw [decide_eq_false (fun z => hk (Sum.inl.inj (z.symm.trans h1)))]
        simp [hk]
theorem st_ok {k : Int} {d : D} {v : V} (rv : Rep K r G d v) : ∀ {kvs : List (Key × V)} {ks : List Int} {xs : List D}, kvs.map (·.1) = ks.map Sum.inl → Reps K r G xs (kvs.map (·.2)) →
    (kvs.map fun kv => if kv.1 = (Sum.inl k : Key) then (kv.1, v) else kv).map (·.1) = ks.map Sum.inl ∧ Reps K r G (stD ks xs k d) ((kvs.map fun kv => if kv.1 = (Sum.inl k : Key) then (kv.1, v) else kv).map (·.2))
  | [], ks, xs, h1, h2 => by
    have e1 : ks = [] := by
      cases ks with
      | nil => rfl
      | cons _ _ => simp at h1
    subst e1
    have e2 : xs = [] := List.length_eq_zero_iff.mp (by have := h2.length; simpa using this)
    subst e2
    exact ⟨rfl, Reps.nil⟩
  | p :: kvs, ks, xs, h1, h2 => by
    cases ks with
    | nil => simp at h1
    | cons k' ks =>
      rw [List.map_cons, List.map_cons] at h1
      injection h1 with h1 h1'
      cases xs with
      | nil => have := h2.length; simp at this
      | cons x xs =>
        rw [List.map_cons] at h2
        unfold Reps at h2
        obtain ⟨u, t, e, r1, r2⟩ := h2
        injection e with e1 e2
        subst e1 e2
        obtain ⟨i1, i2⟩ := st_ok (k := k) (d := d) (v := v) rv h1' r2
        rw [List.map_cons]
        by_cases hk : k' = k
        · subst hk
          rw [if_pos h1]
          refine ⟨?_, ?_⟩
          · rw [List.map_cons, List.map_cons, i1]
            exact congrArg (· :: _) h1
          · unfold stD
            rw [if_pos rfl]
            exact Reps.cons rv i2
        · have ne : ¬ p.1 = (Sum.inl k : Key) := fun z => hk (Sum.inl.inj (h1.symm.trans z))
          rw [if_neg ne]
          refine ⟨?_, ?_⟩
          · rw [List.map_cons, List.map_cons, i1]
            exact congrArg (· :: _) h1
          · unfold stD
            rw [if_neg hk]
            exact Reps.cons r1 i2
theorem put_ok {k : Int} {d : D} {v : V} (rv : Rep K r G d v) {kvs : List (Key × V)} {ks : List Int} {xs : List D} (h1 : kvs.map (·.1) = ks.map Sum.inl) (h2 : Reps K r G xs (kvs.map (·.2))) :
    (putK kvs (Sum.inl k : Key) v).map (·.1) = (putKs ks k).map Sum.inl ∧ Reps K r G (putXs ks xs k d) ((putK kvs (Sum.inl k : Key) v).map (·.2)) := by
  unfold putK putKs putXs
  rw [any_key h1 k]
  by_cases hk : k ∈ ks
  · rw [if_pos (decide_eq_true hk), if_pos hk, if_pos hk]
    exact st_ok rv h1 h2
  · rw [if_neg (by rw [decide_eq_false hk]; decide), if_neg hk, if_neg hk]
    refine ⟨by rw [List.map_append, List.map_append, h1]; rfl, ?_⟩
    rw [List.map_append]
    exact h2.append (Reps.cons rv Reps.nil)
theorem putKs_le (ks : List Int) (k : Int) : (putKs ks k).length ≤ ks.length + 1 := by
  unfold putKs
  split
  · omega
  · simp
end
/-! ### a dict of one's own: {}, d[k] = v -/
section
variable {X : Cx} {W : WD} {own : Bool}
theorem do_dnew {pos : Pos} : DO X W (.Dict [] [] pos) (eK (.dic [] [])) := by
  refine pe_imp pe_dnewK fun σ H Q hq => ?_
  obtain ⟨C, l, rw, G, S, hp⟩ := hq
  intro p hp0
  exact hp p _ _ (S.newO hp0) (Gr.newO S.sub hp0) hp0 (S.ownNew hp0 ⟨[], [], rfl, Nat.zero_le _, rfl, rfl, Reps.nil⟩ rfl)
def sDput (i : Nat) (gk gv : EM D) : SM := fun l rw => match l[i]? with
  | some (.own (.dic ks xs)) => (gv l rw).bind fun p => (gk l p.2).bind fun q => match q.1 with
    | .int k => if ks.length < 100000 then .ok (.next, l.set i (.own (.dic (putKs ks k) (putXs ks xs k p.1))), q.2) else .stuck
    | _ => .stuck
  | _ => .stuck
theorem ds_dput {i : Nat} {st : Stmt} {gk gv : EM D} (h : PS X st (sDPut (tVar i) (tD X.K W gk) (tD X.K W gv))) : DS X W own st (sDput i gk gv) := by
  refine ps_imp h fun E σ H hq => ?_
  obtain ⟨C, l, rw, G, S, hp⟩ := hq
  unfold sDput at hp
  split at hp
  case h_2 => exact hp.elim
  case h_1 ks xs e0 =>
    refine seqD (P := PSq X.K W own C E) S hp (fun x w z H' G' S' => z l σ H' G' S') (fun z => z) fun d1 rw1 v1 H1 G1 S1 s1 r1 h1 => ?_
    obtain ⟨p, e1, _⟩ := S1.ownAt e0
    refine ⟨.ref p, e1, ?_⟩
    refine seqD (P := PSq X.K W own C E) S1 h1 (fun x w z H' G' S' => z l σ H' G' S') (fun z => z) fun d2 rw2 v2 H2 G2 S2 s2 r2 h2 => ?_
    dsimp only [PSq] at h2
    cases d2 with
    | int k =>
      dsimp only at h2
      by_cases hl : ks.length < 100000
      case neg => rw [if_neg hl] at h2; exact h2.elim
      rw [if_pos hl] at h2
      unfold Rep at r2
      subst r2
      obtain ⟨p', e1', ow⟩ := S2.ownAt e0
      rw [e1] at e1'; cases e1'
      obtain ⟨q, eq, hg, h0, hr, kvs, vs, b1, b2, b3, b4, b5⟩ := ow
      cases eq
      subst b4
      have hkl : kvs.length = ks.length := by have := congrArg List.length b3; simpa using this
      obtain ⟨c1, c2⟩ := put_ok (k := k) (r1.mono s2.g) b3 b5
      refine ⟨p, _, rfl, DPut.k (k := Sum.inl k) b1 (by rw [sizeLine_eq]; omega), ?_⟩
      refine h2 σ _ G2 (S2.mutAt e0 e1 rfl ⟨_, _, rfl, ?_, c1, rfl, c2⟩)
      have z := length_putK kvs (Sum.inl k : Key) v1
      rw [sizeLine_eq]; omega
    | _ => exact h2.elim
end
/-! ### a dict looked at -/
def fIxD (d k : D) : Option D := match d with
  | .dic ks xs => (match k with
    | .int k => lkD ks xs k
    | _ => none)
  | d => fIx d k
def fIxDc (d k : D) : Option D := match d, k with
  | .dic ks xs, .int k => lkD ks xs k
  | _, _ => none
def rIxDc : R2 := fun x y H Q => ∃ a v, x = .ref a ∧ DGet H a y (some v) ∧ Q v H
theorem ix_dct {X : Cx} (hu : X.A.units + 1 < cLine) : IxR X rIxDc := by
  intro value slice pins s σ H x y v u Q I rx ry h hs
  obtain ⟨a, z, rfl, g, q⟩ := h
  cases rx
  exact tail_any (dict_typeIs I g) PySem.F.slot_dict_getitem.lookup (d_getItem hu I g ry fun w' s3 I3 rw' => ⟨z, H, I3, rw', q⟩) hs
theorem o_ixDc {K : PySem.W.Frag} : OpD K rIxDc fIxDc := by
  intro o G H d1 d2 v1 v2 d Q s r1 r2 e q
  unfold fIxDc at e
  split at e
  case h_2 => cases e
  case h_1 ks xs k =>
    unfold Rep at r1 r2
    subst r2
    obtain ⟨a, od, kvs, vs, rfl, a1, a2, a3, rfl, a5⟩ := r1
    obtain ⟨v, b1, b2⟩ := (lk_ok a3 a5 k).1 d e
    exact ⟨a, v, rfl, .inl ⟨kvs, Sum.inl k, .inr ⟨od, s _ _ a1⟩, rfl, b1.symm⟩, q v H G (Same.refl _) (Gr.refl s) b2⟩
theorem o_ixD {K : PySem.W.Frag} : OpD K (fun x y H Q => rIx K x y H Q ∨ rIxDc x y H Q) fIxD := by
  refine OpD.or o_ix o_ixDc fun x y d e => ?_
  cases x <;> first | exact .inl e | skip
  right
  cases y <;> first | exact e | cases e
section
variable {X : Cx} {W : WD}
theorem de_ixD {a b : Expr} {ga gb : EM D} {pos : Pos} (hu : X.A.units + 1 < cLine) (ha : DE X W a ga) (hb : DE X W b gb) (hs : PlainIx b) : DE X W (.Subscript a b pos) (eBin fIxD ga gb) := de_ix (ix_seq.or (ix_dct hu)) o_ixD ha hb hs
/-- k in d -/
def fDin (neg : Bool) (k d : D) : Option D := match k, d with
  | .int k, .dic ks xs => some (.bl (if neg = true then !(lkD ks xs k).isSome else (lkD ks xs k).isSome))
  | _, _ => none
theorem dget_of {K : PySem.W.Frag} {r : Option Addr} {G H : Hp} {ks : List Int} {xs : List D} {k : Int} {v : V} (s : Same G H) (r1 : Rep K r G (.dic ks xs) v) :
    ∃ a o, v = .ref a ∧ DGet H a (.int k) o ∧ IsD H a ∧ o.isSome = (lkD ks xs k).isSome ∧ ∀ d, lkD ks xs k = some d → ∃ u, o = some u ∧ Rep K r G d u := by
  unfold Rep at r1
  obtain ⟨a, od, kvs, vs, rfl, a1, a2, a3, rfl, a5⟩ := r1
  obtain ⟨b1, b2⟩ := lk_ok a3 a5 k
  refine ⟨a, valV kvs (Sum.inl k : Key), rfl, .inl ⟨kvs, Sum.inl k, .inr ⟨od, s _ _ a1⟩, rfl, rfl⟩, .inl ⟨kvs, .inr ⟨od, s _ _ a1⟩⟩, ?_, b1⟩
  cases e : lkD ks xs k with
  | none => rw [b2 e]; rfl
  | some d =>
    obtain ⟨u, e2, _⟩ := b1 d e
    rw [e2]; rfl
theorem redDin {K : PySem.W.Frag} {gk gd : EM D} (neg : Bool) : ∀ σ H Q, tD K W (eBin (fDin neg) gk gd) σ H Q → (if neg = true then tDNotIn (tD K W gk) (tD K W gd) else tDIn (tD K W gk) (tD K W gd)) σ H Q := by
  intro σ H Q hq
  obtain ⟨C, l, rw, G, S, hp⟩ := hq
  have core : ∀ (T : V → V → Hp → Prop), (∀ a o y H2 G2 rw2, SR K C l rw2 σ H2 G2 → Gr K C.r H G H2 G2 → DGet H2 a y o → PEq K W C l σ H G Q (.ok (.bl (if neg = true then !o.isSome else o.isSome), rw2)) → T y (.ref a) H2) →
      tD K W gk σ H fun y H1 => tD K W gd σ H1 fun x H2 => T y x H2 := by
    intro T hT
    refine seqD (P := PEq K W C l σ H G Q) S hp (fun _ _ z => z) (fun z => z) fun d1 rw1 v1 H1 G1 S1 s1 r1 h1 => ?_
    refine seqD (P := PEq K W C l σ H G Q) S1 h1 (fun _ _ z => z) (fun z => z) fun d2 rw2 v2 H2 G2 S2 s2 r2 h2 => ?_
    dsimp only [PEq] at h2
    cases d1 with
    | int k =>
      cases d2 with
      | dic ks xs =>
        unfold Rep at r1
        subst r1
        obtain ⟨a, o, rfl, g, _, e3, _⟩ := dget_of (k := k) S2.sub r2
        refine hT a o _ H2 G2 rw2 S2 (s1.trans s2) g ?_
        rw [e3]
        exact h2
      | _ => exact h2.elim
    | _ => cases d2 <;> exact h2.elim
  cases neg with
  | true =>
    rw [if_pos rfl]
    exact core (fun y x H2 => ∃ a o, x = .ref a ∧ DGet H2 a y o ∧ Q (.bl (!o.isSome)) H2) fun a o y H2 G2 rw2 S2 g2 g h => ⟨a, o, rfl, g, h (.bl (!o.isSome)) H2 G2 S2 g2 (by unfold Rep; rfl)⟩
  | false =>
    rw [if_neg (by decide)]
    exact core (fun y x H2 => ∃ a o, x = .ref a ∧ DGet H2 a y o ∧ Q (.bl o.isSome) H2) fun a o y H2 G2 rw2 S2 g2 g h => ⟨a, o, rfl, g, h (.bl o.isSome) H2 G2 S2 g2 (by unfold Rep; rfl)⟩
theorem de_din {i o : Expr} {pos : Pos} {gk gd : EM D} (hu : X.A.units + 1 < cLine) (hi : DE X W i gk) (ho : DE X W o gd) (h1 : behindInMarks .In o = false := by rfl) : DE X W (.Compare i [.In] [o] pos) (eBin (fDin false) gk gd) := pe_imp (pe_cmp (pc_din hu hi ho) h1) (redDin false)
theorem de_dnotin {i o : Expr} {pos : Pos} {gk gd : EM D} (hu : X.A.units + 1 < cLine) (hi : DE X W i gk) (ho : DE X W o gd) (h1 : behindInMarks .NotIn o = false := by rfl) : DE X W (.Compare i [.NotIn] [o] pos) (eBin (fDin true) gk gd) := pe_imp (pe_cmp (pc_dnotin hu hi ho) h1) (redDin true)
theorem dt_din {i o : Expr} {pos : Pos} {gk gd : EM D} (hu : X.A.units + 1 < cLine) (hi : DE X W i gk) (ho : DE X W o gd) (h1 : behindInMarks .In o = false := by rfl) : DT X W (.Compare i [.In] [o] pos) (toB (eBin (fDin false) gk gd)) := dt_pc (pc_din hu hi ho) (redDin false) h1
theorem dt_dnotin {i o : Expr} {pos : Pos} {gk gd : EM D} (hu : X.A.units + 1 < cLine) (hi : DE X W i gk) (ho : DE X W o gd) (h1 : behindInMarks .NotIn o = false := by rfl) : DT X W (.Compare i [.NotIn] [o] pos) (toB (eBin (fDin true) gk gd)) := dt_pc (pc_dnotin hu hi ho) (redDin true) h1
/-- d.get(k), d.get(k, x) -/
def eGet1 (gd gk : EM D) : EM D := fun l rw => (gd l rw).bind fun p => match p.1 with
  | .dic ks xs => (gk l p.2).bind fun q => (match q.1 with
    | .int k => .ok ((lkD ks xs k).getD .non, q.2)
    | _ => .stuck)
  | _ => .stuck
def eGet2 (gd gk gx : EM D) : EM D := fun l rw => (gd l rw).bind fun p => match p.1 with
  | .dic ks xs => (gk l p.2).bind fun q => (gx l q.2).bind fun t => (match q.1 with
    | .int k => .ok ((lkD ks xs k).getD t.1, t.2)
    | _ => .stuck)
  | _ => .stuck
theorem getD_rep {K : PySem.W.Frag} {r : Option Addr} {G : Hp} {od : Option D} {ov : Option V} {d : D} {v : V} (h1 : ov.isSome = od.isSome) (h2 : ∀ e, od = some e → ∃ u, ov = some u ∧ Rep K r G e u) (h : Rep K r G d v) : Rep K r G (od.getD d) (ov.getD v) := by
  cases od with
  | none => cases ov with
    | none => exact h
    | some _ => cases h1
  | some e =>
    obtain ⟨u, rfl, r2⟩ := h2 e rfl
    exact r2
theorem de_get1 {o e : Expr} {apos cpos : Pos} {gd gk : EM D} (hu : X.A.units + 1 < cLine) (ho : DE X W o gd) (he : DE X W e gk) (m : M1 X o "get" apos e cpos) : DE X W (.Call (.Attribute o "get" apos) [e] [] cpos) (eGet1 gd gk) := by
  refine pe_imp (pe_dget1 hu ho he m) fun σ H Q hq => ?_
  obtain ⟨C, l, rw, G, S, hp⟩ := hq
  refine seqD (P := PEq X.K W C l σ H G Q) S hp (fun _ _ z => z) (fun z => z) fun d1 rw1 v1 H1 G1 S1 s1 r1 h1 => ?_
  cases d1 with
  | dic ks xs =>
    obtain ⟨a, _, rfl, _, isd, _⟩ := dget_of (k := 0) S1.sub r1
    refine ⟨a, rfl, isd, ?_⟩
    refine seqD (P := PEq X.K W C l σ H G Q) S1 h1 (fun _ _ z => z) (fun z => z) fun d2 rw2 v2 H2 G2 S2 s2 r2 h2 => ?_
    dsimp only [PEq] at h2
    cases d2 with
    | int k =>
      unfold Rep at r2
      subst r2
      obtain ⟨a', o, e', g, _, e3, e4⟩ := dget_of (k := k) S2.sub (r1.mono s2.g)
      cases e'
      exact ⟨o, g, h2 _ H2 G2 S2 (s1.trans s2) (getD_rep e3 e4 (by unfold Rep; rfl))⟩
    | _ => exact h2.elim
  | _ => exact h1.elim
theorem de_get2 {o e f : Expr} {apos cpos : Pos} {gd gk gx : EM D} (hu : X.A.units + 1 < cLine) (ho : DE X W o gd) (he : DE X W e gk) (hf : DE X W f gx) (m : M2 X o "get" apos e f cpos) : DE X W (.Call (.Attribute o "get" apos) [e, f] [] cpos) (eGet2 gd gk gx) := by
  refine pe_imp (pe_dget2 hu ho he hf m) fun σ H Q hq => ?_
  obtain ⟨C, l, rw, G, S, hp⟩ := hq
  refine seqD (P := PEq X.K W C l σ H G Q) S hp (fun _ _ z => z) (fun z => z) fun d1 rw1 v1 H1 G1 S1 s1 r1 h1 => ?_
  cases d1 with
  | dic ks xs =>
    obtain ⟨a, _, rfl, _, isd, _⟩ := dget_of (k := 0) S1.sub r1
    refine ⟨a, rfl, isd, ?_⟩
    refine seqD (P := PEq X.K W C l σ H G Q) S1 h1 (fun _ _ z => z) (fun z => z) fun d2 rw2 v2 H2 G2 S2 s2 r2 h2 => ?_
    refine seqD (P := PEq X.K W C l σ H G Q) S2 h2 (fun _ _ z => z) (fun z => z) fun d3 rw3 v3 H3 G3 S3 s3 r3 h3 => ?_
    dsimp only [PEq] at h3
    cases d2 with
    | int k =>
      unfold Rep at r2
      subst r2
      obtain ⟨a', o, e', g, _, e3, e4⟩ := dget_of (k := k) S3.sub ((r1.mono s2.g).mono s3.g)
      cases e'
      exact ⟨o, g, h3 _ H3 G3 S3 ((s1.trans s2).trans s3) (getD_rep e3 e4 r3)⟩
    | _ => exact h3.elim
  | _ => exact h1.elim
/-! ### a dict walked -/
def aKeys (g : EM D) : EM (List D) := fun l rw => (g l rw).bind fun p => match p.1 with
  | .dic ks xs => .ok (ks.map .int, p.2)
  | _ => .stuck
theorem walk_k {K : PySem.W.Frag} {r : Option Addr} {G : Hp} {a : Addr} {od : Obj} {kvs : List (Key × V)} {ks : List Int} (h : G a = some (.frz od (.dK kvs))) (q : kvs.map (·.1) = ks.map Sum.inl) : WalkD K r G (Itk a od kvs) (ks.map D.int) := by
  have hl : kvs.length = ks.length := by have := congrArg List.length q; simpa using this
  refine ⟨fun i H s hi => ⟨s _ _ h, ?_⟩, fun i H s hi => ⟨s _ _ h, ?_⟩, fun i H x H' s y d hd => ?_⟩
  · rw [List.length_map] at hi; omega
  · rw [List.length_map] at hi; omega
  · obtain ⟨e, k, v, e1, e2⟩ := y
    refine ⟨e, ?_⟩
    rw [List.getElem?_map] at hd
    cases e3 : ks[i]? with
    | none => rw [e3] at hd; cases hd
    | some k0 =>
      rw [e3] at hd
      cases hd
      have z : (kvs.map (·.1))[i]? = (ks.map Sum.inl)[i]? := by rw [q]
      rw [List.getElem?_map, List.getElem?_map, e1, e3] at z
      have z : k = Sum.inl k0 := Option.some.inj z
      subst z
      unfold Rep
      exact e2
theorem di_keys {tg e : Expr} {g : EM D} (h : DE X W e g) : DI X W tg e (aKeys g) := by
  refine pi_imp (pi_keys h) fun σ H Rr hq => ?_
  obtain ⟨C, l, rw, G, S, hp⟩ := hq
  refine seqD (P := fun q => IPost X.K W C l σ H G q Rr) S hp (fun x w z H' G' S' => z H' G' S') (fun z => z) fun d rw1 v H1 G1 S1 s1 r1 h1 => ?_
  cases d with
  | dic ks xs =>
    unfold Rep at r1
    obtain ⟨a, od, kvs, vs, rfl, a1, a2, a3, rfl, a5⟩ := r1
    exact ⟨a, od, rfl, .inl ⟨kvs, S1.sub _ _ a1, h1 _ H1 G1 S1 s1 (walk_k a1 a3)⟩⟩
  | _ => exact h1.elim
end
end HD
end
section
/-! The data layer: list(d.values()), dict(pairs), max(d), x == [], [] not in x, list(range(..)), xs[i] = v, xs.pop(). -/
namespace HD
open PySem PySem.Spec L2
open PyProof.Rows hiding St
/-! ### list(d.values()) -/
section
variable {X : Cx} {W : WD} {own : Bool} {e : Expr} {te : TE} {p apos cpos pos : Pos}
def tVals (te : TE) : TE := fun σ H Q => te σ H fun x H1 => ∃ d kvs, x = .ref d ∧ Rd H1 d (.dK kvs) ∧ ∀ q, H1 q = none → Q (.ref q) (upd H1 q (.lst (kvs.map (·.2))))
theorem pe_listVals (hc : X.calm = true) (he : PE X e te) (hg : Gl X "list") (hm : X.mg "list" = none) (hv : bootBuiltins "list" = some (.type "list") := by decide +kernel) (hbase : attributeBase e "values" X.env (eval e X.env) = eval e X.env := by rfl) (hline : (apos.endLine == cpos.line) = true := by rfl)
    (hs : starEach [.Call (.Attribute e "values" apos) [] [] cpos] X.env = (false, eval (.Call (.Attribute e "values" apos) [] [] cpos) X.env) :: starEach [] X.env := by rfl) :
    PE X (.Call (.Name "list" p) [.Call (.Attribute e "values" apos) [] [] cpos] [] pos) (tVals te) := by
  refine ⟨fun pins s σ H Q I hq => ?_⟩
  refine wpAny_Call_Name_kw (ld_blt I hg hm hv ?_)
  refine PyProof.Rows.callWith_type1 ?_ hs rfl
  rw [hs]
  show wpAny _ _ (spliced ((false, eval (.Call (.Attribute e "values" apos) [] [] cpos) X.env) :: backTo pos (starEach [] X.env))) _ _ s
  refine Calls.spliced_cons ?_
  refine wpAny_Call_method (T := "dict") (id := "dict.values") hbase rfl hline PySem.F.plainAttrs_dict PySem.F.slot_dict_values PySem.F.type_dict_values (thn (he.run pins s σ H _ I hq) fun u s1 ⟨x, H1, I1, rx, d, kvs, ex, hd, q⟩ => ?_)
  subst ex
  obtain rfl : u = Value.ref d := rx
  obtain ⟨hz, hs0, vs, kv, hdo⟩ := dk_rd I1.hok hd
  obtain ⟨ep, hat⟩ := hdo.dictAt
  have lk : kvs.length = vs.length := Paired.length kv
  refine ⟨hdo.typeIs, hdo.mapOf.noDict, ?_⟩
  show wpAny _ _ (callWith cpos (.builtin "dict.values") [.ref d] [] []) _ X.xe s1
  refine method_meetsIn PySem.F.slot_dict_values PySem.F.entry_dict_values rfl (PySem.evalArgs_none ⟨rfl, hdo.typeIs, PySem.F.args_dict_values_1 _, _, meets_dict_values (mixKind X.prog X.w) d hs0, ⟨vs, hdo⟩, ?_⟩)
  refine Calls.spliced_nil ?_
  have I2 : Inv X pins σ H1 { s1 with heap := s1.heap.push { cls := .type "dict_values", data := .fields #[.ref d] } } := I1.kept (t' := s1.toks) fun b ob q => Heap.get?_push_of_some _ q
  refine PySem.W.kdl_call (PySem.W.kdl_values (knd := mixKind X.prog X.w) (kvs := vs) (ep := ep)) (I1.ok.hd hc) ⟨⟨_, Heap.get?_push_size _ rfl, rfl, rfl⟩, hat.push _⟩ (by omega) fun h' tk acc c hk hS hit => ?_
  refine ⟨.ref _, upd H1 _ (.lst (kvs.map (·.2))), I2.laid (t' := tk) hk (Nat.le_refl _) ⟨?_, acc.toList, c, ?_, ?_⟩, rfl, q _ (I2.hok.fresh (Nat.le_refl _))⟩
  · rw [List.length_map]; exact hz
  · refine vals_of_at ?_ fun j x u hx hu => ?_
    · rw [List.length_map]; exact lk.trans (hit.1.symm.trans (Array.length_toList (xs := acc)).symm)
    · rw [Array.getElem?_toList] at hu
      obtain ⟨k, hk2⟩ := hit.2 j u hu
      obtain ⟨y, h1, h2⟩ := KV.at' kv hk2
      rw [List.getElem?_map, h1] at hx
      cases hx
      exact h2
  · rw [Array.toArray_toList]; exact hS
def eVals (g : EM D) : EM D := fun l rw => (g l rw).bind fun p => match p.1 with
  | .dic ks xs => .ok (.lst xs, p.2)
  | _ => .stuck
theorem do_vals {g : EM D} (hc : X.calm = true) (h : DE X W e g) (hg : Gl X "list") (hm : X.mg "list" = none) (hbase : attributeBase e "values" X.env (eval e X.env) = eval e X.env := by rfl) (hline : (apos.endLine == cpos.line) = true := by rfl)
    (hs : starEach [.Call (.Attribute e "values" apos) [] [] cpos] X.env = (false, eval (.Call (.Attribute e "values" apos) [] [] cpos) X.env) :: starEach [] X.env := by rfl) :
    DO X W (.Call (.Name "list" p) [.Call (.Attribute e "values" apos) [] [] cpos] [] pos) (eVals g) := by
  refine pe_imp (pe_listVals hc h hg hm (hbase := hbase) (hline := hline) (hs := hs)) fun σ H Q hq => ?_
  obtain ⟨C, l, rw, G, S, hp⟩ := hq
  refine seqD (P := POq X.K W C l σ H G Q) S hp (fun _ _ z => z) (fun z => z) fun d rw1 v H1 G1 S1 s1 r1 h1 => ?_
  cases d with
  | dic ks xs =>
    unfold Rep at r1
    obtain ⟨a, od, kvs, vs, rfl, a1, a2, a3, rfl, a5⟩ := r1
    refine ⟨a, kvs, rfl, .inr ⟨od, S1.sub _ _ a1⟩, fun q hq => ?_⟩
    refine h1 q _ _ (S1.newO hq) (s1.trans (Gr.newO S1.sub hq)) ?_ (S1.ownNew hq ⟨_, rfl, by rw [List.length_map]; exact a2, a5⟩ rfl)
    cases z : H q with
    | none => rfl
    | some o => obtain ⟨o', z2⟩ := s1.t _ _ z; rw [hq] at z2; cases z2
  | _ => exact h1.elim
/-! ### dict(pairs) -/
def pairsD : List D → Option (List (Int × D))
  | [] => some []
  | .tup [.int k, x] :: r => (pairsD r).map ((k, x) :: ·)
  | _ => none
def mergeD : List Int → List D → List (Int × D) → List Int × List D
  | ks, xs, [] => (ks, xs)
  | ks, xs, p :: r => mergeD (putKs ks p.1) (putXs ks xs p.1 p.2) r
def fDictP : List D → Option D
  | [.lst ps] => (pairsD ps).map fun q => .dic (mergeD [] [] q).1 (mergeD [] [] q).2
  | _ => none
theorem merge_ok {K : PySem.W.Frag} {r : Option Addr} {G : Hp} : ∀ {ps : List (Int × D)} {kvs0 kvs : List (Key × V)} {ks : List Int} {xs : List D}, kvs0.map (·.1) = ks.map Sum.inl → Reps K r G xs (kvs0.map (·.2)) →
    kvs.map (·.1) = ps.map (fun p => Sum.inl p.1) → Reps K r G (ps.map (·.2)) (kvs.map (·.2)) → (mergeK kvs0 kvs).map (·.1) = (mergeD ks xs ps).1.map Sum.inl ∧ Reps K r G (mergeD ks xs ps).2 ((mergeK kvs0 kvs).map (·.2))
  | [], kvs0, kvs, ks, xs, h1, h2, h3, h4 => by
    have e : kvs = [] := by
      cases kvs with
      | nil => rfl
      | cons _ _ => simp at h3
    subst e
    exact ⟨h1, h2⟩
  | p :: ps, kvs0, kvs, ks, xs, h1, h2, h3, h4 => by
    cases kvs with
    | nil => simp at h3
    | cons q kvs =>
      rw [List.map_cons, List.map_cons] at h3
      injection h3 with h3 h3'
      rw [List.map_cons, List.map_cons] at h4
      unfold Reps at h4
      obtain ⟨v, t, e, r1, r2⟩ := h4
      injection e with e1 e2
      subst e1 e2
      obtain ⟨c1, c2⟩ := put_ok (k := p.1) r1 h1 h2
      show (mergeK (putK kvs0 q.1 q.2) kvs).map (·.1) = (mergeD (putKs ks p.1) (putXs ks xs p.1 p.2) ps).1.map Sum.inl ∧ Reps K r G (mergeD (putKs ks p.1) (putXs ks xs p.1 p.2) ps).2 ((mergeK (putK kvs0 q.1 q.2) kvs).map (·.2))
      rw [h3]
      exact merge_ok c1 c2 h3' r2
theorem pairs_ok {K : PySem.W.Frag} {r : Option Addr} {G H : Hp} (s : Same G H) : ∀ {ds : List D} {vs : List V} {ps : List (Int × D)}, pairsD ds = some ps → Reps K r G ds vs →
    ∃ (as : List Addr) (kvs : List (Key × V)), vs = as.map V.ref ∧ Paired (fun p kv => SqT K H p [kV kv.1, kv.2]) as kvs ∧ kvs.map (·.1) = ps.map (fun p => Sum.inl p.1) ∧ Reps K r G (ps.map (·.2)) (kvs.map (·.2))
  | [], vs, ps, h, q => by
    cases h
    unfold Reps at q
    subst q
    exact ⟨[], [], rfl, .nil, rfl, Reps.nil⟩
  | d :: ds, vs, ps, h, q => by
    unfold pairsD at h
    split at h
    case h_1 z => cases z
    case h_3 => cases h
    case h_2 k x rr z =>
      injection z with z1 z2
      subst z1 z2
      cases e : pairsD ds with
      | none => rw [e] at h; cases h
      | some qs =>
        rw [e] at h
        cases h
        unfold Reps at q
        obtain ⟨v, t, rfl, r1, r2⟩ := q
        obtain ⟨as, kvs, rfl, i1, i2, i3⟩ := pairs_ok s e r2
        unfold Rep at r1
        obtain ⟨a, us, rfl, a1, a2, a3⟩ := r1
        unfold Reps at a3
        obtain ⟨u1, t1, rfl, b1, b2⟩ := a3
        unfold Reps at b2
        obtain ⟨u2, t2, rfl, b3, b4⟩ := b2
        unfold Reps at b4
        subst b4
        unfold Rep at b1
        subst b1
        refine ⟨a :: as, (Sum.inl k, u2) :: kvs, rfl, .cons (Same.seqT s a1) i1, ?_, ?_⟩
        · rw [List.map_cons, List.map_cons, i2]
        · exact Reps.cons b3 i3
theorem length_pairsD : ∀ {ds : List D} {ps : List (Int × D)}, pairsD ds = some ps → ps.length = ds.length
  | [], ps, h => by cases h; rfl
  | d :: ds, ps, h => by
    unfold pairsD at h
    split at h
    case h_1 z => cases z
    case h_3 => cases h
    case h_2 k x rr z =>
      injection z with z1 z2
      subst z1 z2
      cases e : pairsD ds with
      | none => rw [e] at h; cases h
      | some qs => rw [e] at h; cases h; simp [length_pairsD e]
theorem a_dictP {K : PySem.W.Frag} : ArN K (fun xs H Q => ∃ (a : Addr) (ps : List Addr) (kvs : List (Key × V)), xs = [.ref a] ∧ SqL K H a (ps.map V.ref) ∧ Paired (fun p kv => SqT K H p [kV kv.1, kv.2]) ps kvs ∧
    ∀ p, H p = none → Q (.ref p) (upd H p (.dK (mergeK [] kvs)))) fDictP := by
  intro o G H ds vs d Q s r e
  unfold fDictP at e
  split at e
  case h_2 => cases e
  case h_1 ps =>
    cases e1 : pairsD ps with
    | none => rw [e1] at e; cases e
    | some qs =>
      rw [e1] at e
      cases e
      obtain ⟨v, rfl, r1⟩ := reps1 r
      unfold Rep at r1
      obtain ⟨a, us, rfl, a1, a2, a3⟩ := r1
      obtain ⟨as, kvs, rfl, i1, i2, i3⟩ := pairs_ok s e1 a3
      refine ⟨rfl, fun k => ⟨a, as, kvs, rfl, .of (s _ _ a1), i1, fun p hp => ?_⟩⟩
      obtain ⟨c1, c2⟩ := merge_ok (ks := []) (xs := []) (kvs0 := []) rfl Reps.nil i2 i3
      refine k p H _ (Same.refl _) hp ⟨_, _, rfl, ?_, c1, rfl, c2⟩
      have z := length_mergeK kvs []
      have z2 : kvs.length = as.length := (Paired.length i1).symm
      rw [List.length_map] at a2
      rw [List.length_nil, Nat.zero_add] at z
      omega
/-! ### max(d): the greatest key -/
def rMaxK : List V → Hp → VK → Prop := fun xs H Q => ∃ (a : Addr) (kvs : List (Key × V)) (ks : List Int), xs = [.ref a] ∧ Rd H a (.dK kvs) ∧ kvs.map (·.1) = ks.map Sum.inl ∧ ks ≠ [] ∧ ∀ m, m ∈ ks → (∀ y ∈ ks, y ≤ m) → Q (.int m) H
theorem cr_maxK (hc : X.calm = true) : CallR X (.builtin "max") rMaxK := by
  intro pins s σ H vs us Q I r h
  obtain ⟨a, kvs, ks, rfl, hd, hk, hne, q⟩ := h
  obtain rfl := Vals.ref1 r
  obtain ⟨hz, hs0, ws, kv, hdo⟩ := dk_rd I.hok hd
  obtain ⟨ep, hat⟩ := hdo.dictAt
  have lk : kvs.length = ws.length := Paired.length kv
  have lks : kvs.length = ks.length := by have := congrArg List.length hk; simpa using this
  have hpos : 0 < ks.length := List.length_pos_iff.mpr hne
  obtain ⟨oI, St, h1, W1, h3⟩ := (PySem.W.kdl_dict (knd := mixKind X.prog X.w) (kvs := ws) (ep := ep) (d := a) hs0).iter X.A.in1 s (I.ok.hd hc) hat
  have hval : ∀ (i : Nat) (v : Value), (∃ k x, ws[i]? = some (k, x) ∧ (mixKind X.prog X.w).is k v = true) → ∃ t, v = Value.int (ks.getD i 0) t := fun i v ⟨k, x, e1, e2⟩ => by
    have hi : i < ws.length := (List.getElem?_eq_some_iff.mp e1).1
    obtain ⟨p, hp⟩ : ∃ p, kvs[i]? = some p := ⟨_, List.getElem?_eq_getElem (by omega)⟩
    obtain ⟨u, e3, _⟩ := kv_get kv hp
    rw [e1] at e3
    have ek : p.1 = k := by cases e3; rfl
    have z : (kvs.map (·.1))[i]? = (ks.map Sum.inl)[i]? := by rw [hk]
    rw [List.getElem?_map, List.getElem?_map, hp] at z
    obtain ⟨j, hj⟩ : ∃ j, ks[i]? = some j := ⟨_, List.getElem?_eq_getElem (by omega)⟩
    rw [hj] at z
    have z : p.1 = Sum.inl j := Option.some.inj z
    rw [← ek, z] at e2
    obtain ⟨t, e4⟩ := (relV_key (show keyIs (Sum.inl j) v = true from e2) : RelV (kV (Sum.inl j)) v)
    refine ⟨t, ?_⟩
    rw [e4, List.getD_eq_getElem?_getD, hj]; rfl
  refine call_max_walk (h1 _ _ ?_)
  refine ⟨_, _, _, _, _, _, _, rfl, W1, h3, fun b hb => ?_, by omega, CmpOf.ints_gt (fun i => ks.getD i 0) hval, fun v h' tk hP hk2 => ?_⟩
  · show b < (s.heap.push oI).objs.size
    rw [Heap.size_push]
    rcases List.mem_cons.mp hb with rfl | hb
    · exact Nat.lt_succ_self _
    · obtain rfl : b = a := by simpa using hb
      exact Nat.lt_succ_of_lt hat.lt_size
  · obtain ⟨t, rfl⟩ := hval _ v hP
    have hb := argBest_gt (fun i => ks.getD i 0) (ws.length - 1)
    have hbl : argBest (fun i j => decide (ks.getD i 0 > ks.getD j 0)) (ws.length - 1) < ks.length := by have := hb.1; omega
    refine ⟨.int _, H, I.kept fun b o e => hk2 b o ?_ (Heap.get?_push_of_some _ e), ⟨t, rfl⟩, q _ ?_ fun y hy => ?_⟩
    · intro z
      have z : b = s.heap.objs.size := by simpa using z
      exact Nat.lt_irrefl _ (z ▸ Heap.lt_size e)
    · rw [List.getD_eq_getElem?_getD, List.getElem?_eq_getElem hbl]
      exact List.getElem_mem hbl
    · obtain ⟨j, hj, e⟩ := List.getElem_of_mem hy
      have z := hb.2 j (by omega)
      have e2 : ks.getD j 0 = y := by rw [List.getD_eq_getElem?_getD, List.getElem?_eq_getElem hj, ← e]; rfl
      rw [e2] at z
      exact z
def fMaxK : List D → Option D
  | [.dic (k :: ks) _] => some (.int (maxI 0 (k :: ks)))
  | _ => none
theorem a_maxK {K : PySem.W.Frag} : ArD K rMaxK fMaxK := by
  intro o G H ds vs d Q s r e q
  unfold fMaxK at e
  split at e
  case h_2 => cases e
  case h_1 k ks xs =>
    cases e
    obtain ⟨v, rfl, r1⟩ := reps1 r
    unfold Rep at r1
    obtain ⟨a, od, kvs, us, rfl, a1, a2, a3, rfl, a5⟩ := r1
    refine ⟨a, kvs, k :: ks, rfl, .inr ⟨od, s _ _ a1⟩, a3, by simp, fun m m1 m2 => ?_⟩
    have hm : m = maxI 0 (k :: ks) := maxI_eq (fun z => by cases z) fun _ => ⟨m1, m2⟩
    rw [hm]
    exact q _ H G (Same.refl _) (Gr.refl s) (by unfold Rep; rfl)
/-! ### x == [], [] not in x -/
def rEqNil (K : PySem.W.Frag) : R2 := fun x y H Q => ∃ a b xs, x = .ref a ∧ y = .ref b ∧ SqL K H a xs ∧ SqL K H b [] ∧ Q (.bl xs.isEmpty) H
theorem op_eqNil (hu : X.A.units + 64 < cLine) : OpR X (compareOp .Eq) (rEqNil X.K) := by
  intro pins s σ H x y v u Q I rx ry h
  obtain ⟨a, b, xs, rfl, rfl, ha, hb, q⟩ := h
  cases rx
  cases ry
  obtain ⟨us, r1, p1, _⟩ := I.list ha
  obtain ⟨ws, r2, p2, _⟩ := I.list hb
  have e2 : ws = [] := List.length_eq_zero_iff.mp (by have := r2.length; simpa using this.symm)
  subst e2
  cases xs with
  | nil =>
    have e1 : us = [] := List.length_eq_zero_iff.mp (by have := r1.length; simpa using this.symm)
    subst e1
    exact SeqAt.eq_listAt (e := fun _ => true) p1.isList p2.isList rfl (by omega) (fun j h1 _ => absurd h1 (by simp)) ⟨.bl true, H, I, rfl, q⟩
  | cons x xs =>
    have l1 := r1.length
    refine SeqAt.eq_list_lengthsAt p1.isList p2.isList ?_ (by omega) ⟨.bl false, H, I, rfl, q⟩
    rw [List.size_toArray, List.size_toArray, ← l1]
    simp
def fEqN (d e : D) : Option D := match d, e with
  | .lst xs, .lst [] => some (.bl xs.isEmpty)
  | _, _ => none
theorem c_eqN {K : PySem.W.Frag} : CmpD K (rEqNil K) fEqN := by
  intro o G H d1 d2 v1 v2 d Q s r1 r2 e q
  unfold fEqN at e
  split at e
  case h_2 => cases e
  case h_1 xs =>
    cases e
    unfold Rep at r1 r2
    obtain ⟨a, us, rfl, a1, a2, a3⟩ := r1
    obtain ⟨b, ws, rfl, b1, b2, b3⟩ := r2
    unfold Reps at b3
    subst b3
    have ex : us.isEmpty = xs.isEmpty := by
      have hl := a3.length
      cases us <;> cases xs <;> first | rfl | simp at hl
    exact ⟨a, b, us, rfl, rfl, .of (s _ _ a1), .of (s _ _ b1), q _ (by rw [ex]; unfold Rep; rfl)⟩
/-- an empty list's address -/
def isNilL (h : Heap) : Value → Bool
  | .ref c => (match h.get? c with
    | some ⟨.type "list", _, .seq its _, _⟩ => its.size == 0
    | _ => false)
  | _ => false
def rNotInNil (K : PySem.W.Frag) : R2 := fun x y H Q => ∃ (a b : Addr) (xs : List (Addr × List V)), x = .ref a ∧ y = .ref b ∧ SqL K H a [] ∧ SqL K H b (xs.map fun p => V.ref p.1) ∧ (∀ p ∈ xs, SqL K H p.1 p.2) ∧ Q (.bl (!xs.any fun p => p.2.isEmpty)) H
theorem op_notInNil (hu : X.A.units + 64 < cLine) : OpR X (compareOp .NotIn) (rNotInNil X.K) := by
  intro pins s σ H x y v u Q I rx ry h
  obtain ⟨a, b, xs, rfl, rfl, ha, hb, hx, q⟩ := h
  cases rx
  cases ry
  obtain ⟨us, r1, p1, _⟩ := I.list ha
  obtain ⟨ws, r2, p2, _⟩ := I.list hb
  have e1 : us = [] := List.length_eq_zero_iff.mp (by have := r1.length; simpa using this.symm)
  subst e1
  have key : ∀ p ∈ xs, ∃ its : List Value, s.heap.IsList p.1 its.toArray ∧ isNilL s.heap (.ref p.1) = p.2.isEmpty ∧ its.length = p.2.length := fun p hp => by
    obtain ⟨its, r3, p3, _⟩ := I.list (hx p hp)
    refine ⟨its, p3.isList, ?_, r3.length.symm⟩
    obtain ⟨o, n, e, c, hd, hdat⟩ := p3
    obtain ⟨cls, dd, dat, sl⟩ := o
    simp only at c hdat
    subst c hdat
    unfold isNilL
    dsimp only
    rw [e]
    show (its.toArray.size == 0) = p.2.isEmpty
    rw [List.size_toArray, ← r3.length]
    cases p.2 <;> rfl
  have wsr : ∀ (ys : List (Addr × List V)) (ws : List Value), Vals (ys.map fun p => V.ref p.1) ws → ws = ys.map fun p => Value.ref p.1 := by
    intro ys
    induction ys with
    | nil => intro ws r; cases r; rfl
    | cons y ys ih =>
      intro ws r
      cases r with
      | cons h t =>
        cases h
        rw [ih _ t]; rfl
  have ew := wsr xs ws r2
  have anyE : ∀ ys : List (Addr × List V), (∀ p ∈ ys, isNilL s.heap (.ref p.1) = p.2.isEmpty) → (ys.map fun p => Value.ref p.1).any (isNilL s.heap) = ys.any fun p => p.2.isEmpty := by
    intro ys
    induction ys with
    | nil => intro _; rfl
    | cons y ys ih =>
      intro h
      rw [List.map_cons, List.any_cons, List.any_cons, h y List.mem_cons_self, ih fun p hp => h p (List.mem_cons_of_mem _ hp)]
  refine SeqAt.notIn_listAt (isNilL s.heap) p2.isList (fun z hz => ?_) ⟨.bl (!xs.any fun p => p.2.isEmpty), H, I, ?_, q⟩
  · rw [ew] at hz
    have hz : z ∈ xs.map fun p => Value.ref p.1 := by simpa using hz
    obtain ⟨p, hp, rfl⟩ := List.mem_map.mp hz
    obtain ⟨its, k1, k2, k3⟩ := key p hp
    by_cases hne : p.1 = a
    · have e3 : isNilL s.heap (.ref p.1) = true := by
        rw [k2]
        have : its = [] := by
          have z := k1
          rw [hne] at z
          have := p1.isList
          obtain ⟨o1, ho1, _, n1, hd1⟩ := z
          obtain ⟨o2, ho2, _, n2, hd2⟩ := this
          rw [ho1] at ho2
          cases ho2
          rw [hd1] at hd2
          have z3 : its.toArray = ([] : List Value).toArray := by injection hd2
          simpa using z3
        rw [this] at k3
        cases h : p.2 with
        | nil => rfl
        | cons _ _ => rw [h] at k3; simp at k3
      rw [e3, hne]
      exact SeqAt.EqAt.same _
    · refine SeqAt.EqAt.of_refs hne ?_
      rw [k2]
      cases h : p.2 with
      | nil =>
        rw [h] at k3
        have e4 : its = [] := List.length_eq_zero_iff.mp k3
        subst e4
        exact SeqAt.RcAt.lists (e := fun _ => true) k1 p1.isList rfl (by show X.A.units + 1 < cLine; omega) fun j h1 _ => absurd h1 (by simp)
      | cons _ _ =>
        rw [h] at k3
        exact SeqAt.RcAt.lists_lengths k1 p1.isList (by rw [List.size_toArray, List.size_toArray, k3]; simp) (by show X.A.units + 1 < cLine; omega)
  · show _ = Value.bool _
    rw [ew, ← anyE xs fun p hp => let ⟨_, _, z, _⟩ := key p hp; z]
    simp
end
end HD
end
section
/-! The data layer: more that stands in the program: [] not in x, list(range(..)), xs[i] = v, xs.pop(), x not in range(..). -/
namespace HD
open PySem PySem.Spec L2
open PyProof.Rows hiding St
def isLstD : D → Bool
  | .lst _ => true
  | _ => false
def isNilD : D → Bool
  | .lst [] => true
  | _ => false
def fNotInN (d e : D) : Option D := match d, e with
  | .lst [], .lst ys => if ys.all isLstD = true then some (.bl (!ys.any isNilD)) else none
  | _, _ => none
theorem lists_of {K : PySem.W.Frag} {o : Option Addr} {G H : Hp} (s : Same G H) : ∀ {ys : List D} {vs : List V}, ys.all isLstD = true → Reps K o G ys vs →
    ∃ xs : List (Addr × List V), vs = xs.map (fun p => V.ref p.1) ∧ (∀ p ∈ xs, SqL K H p.1 p.2) ∧ (xs.any fun p => p.2.isEmpty) = ys.any isNilD
  | [], vs, _, r => by
    unfold Reps at r
    subst r
    exact ⟨[], rfl, fun p hp => absurd hp (by simp), rfl⟩
  | y :: ys, vs, h, r => by
    unfold Reps at r
    obtain ⟨v, t, rfl, r1, r2⟩ := r
    have h' : isLstD y = true ∧ ys.all isLstD = true := by simpa using h
    obtain ⟨xs, rfl, i2, i3⟩ := lists_of s h'.2 r2
    cases y with
    | lst zs =>
      unfold Rep at r1
      obtain ⟨a, us, rfl, a1, a2, a3⟩ := r1
      refine ⟨(a, us) :: xs, rfl, fun p hp => ?_, ?_⟩
      · rcases List.mem_cons.mp hp with rfl | hp
        · exact .of (s _ _ a1)
        · exact i2 p hp
      · rw [List.any_cons, List.any_cons, i3]
        congr 1
        have hl := a3.length
        cases zs <;> cases us <;> first | rfl | simp at hl
    | _ => cases h'.1
theorem c_notInN {K : PySem.W.Frag} : CmpD K (rNotInNil K) fNotInN := by
  intro o G H d1 d2 v1 v2 d Q s r1 r2 e q
  unfold fNotInN at e
  split at e
  case h_2 => cases e
  case h_1 ys =>
    split at e
    case isFalse => cases e
    case isTrue h =>
      cases e
      unfold Rep at r1 r2
      obtain ⟨a, us, rfl, a1, a2, a3⟩ := r1
      unfold Reps at a3
      subst a3
      obtain ⟨b, ws, rfl, b1, b2, b3⟩ := r2
      obtain ⟨xs, rfl, i2, i3⟩ := lists_of s h b3
      exact ⟨a, b, xs, rfl, rfl, .of (s _ _ a1), .of (s _ _ b1), i2, q _ (by rw [i3]; unfold Rep; rfl)⟩
/-! ### list(range(..)) -/
section
variable {X : Cx} {W : WD} {own : Bool}
def eLRg1 (g : EM D) : EM D := fun l rw => (g l rw).bind fun p => match p.1 with
  | .int n => if -1000000 ≤ n ∧ n ≤ 1000000 then .ok (.lst (rangeD 0 n.toNat), p.2) else .stuck
  | _ => .stuck
def eLRg2 (g1 g2 : EM D) : EM D := fun l rw => (g1 l rw).bind fun p => (g2 l p.2).bind fun q => match p.1, q.1 with
  | .int i, .int n => if (-1000000 ≤ i ∧ i ≤ 1000000) ∧ -1000000 ≤ n ∧ n ≤ 1000000 then .ok (.lst (rangeD i (n - i).toNat), q.2) else .stuck
  | _, _ => .stuck
theorem rgV_ints (a b : Int) : ∃ ns : List Int, rgV a b = ns.map V.int ∧ rangeD a (b - a).toNat = ns.map D.int := by
  refine ⟨(List.range (b - a).toNat).map fun i => a + (i : Nat), ?_, ?_⟩
  · unfold rgV; rw [List.map_map]; rfl
  · unfold rangeD; rw [List.map_map]; rfl
theorem rgOk_of {a b : Int} (ha : -1000000 ≤ a ∧ a ≤ 1000000) (hb : -1000000 ≤ b ∧ b ≤ 1000000) : RgOk a b := ⟨(small62 ha).1, (small62 ha).2, (small62 hb).1, (small62 hb).2, by omega⟩
theorem own_rg {K : PySem.W.Frag} {C : C0} {l : Dl} {rw1 : Rw} {σ : St} {H G H1 G1 : Hp} {Q : VK} {a b : Int} (ha : -1000000 ≤ a ∧ a ≤ 1000000) (hb : -1000000 ≤ b ∧ b ≤ 1000000) (S1 : SR K C l rw1 σ H1 G1) (s1 : Gr K C.r H G H1 G1)
    (h1 : POq K W C l σ H G Q (.ok (.lst (rangeD a (b - a).toNat), rw1))) : ∀ q, H1 q = none → Q (.ref q) (upd H1 q (.lst (rgV a b))) := by
  intro q hq
  obtain ⟨ns, e1, e2⟩ := rgV_ints a b
  have hl : (rgV a b).length ≤ sizeLine := by rw [rgV_length, sizeLine_eq]; omega
  refine h1 q _ _ (S1.newO hq) (s1.trans (Gr.newO S1.sub hq)) ?_ (S1.ownNew hq ⟨_, rfl, hl, ?_⟩ rfl)
  · cases z : H q with
    | none => rfl
    | some o => obtain ⟨o', z2⟩ := s1.t _ _ z; rw [hq] at z2; cases z2
  · rw [e1, e2]; exact Reps.of_ints ns
theorem do_lrg1 {a : Expr} {p pos : Pos} {p2 pos2 : Pos} {g : EM D} (hc : X.calm = true) (hg : Gl X "list") (hm : X.mg "list" = none) (hg2 : Gl X "range") (hm2 : X.mg "range" = none) (ha : DE X W a g)
    (na2 : starEach [a] X.env = (false, eval a X.env) :: starEach [] X.env := by rfl)
    (na : starEach [.Call (.Name "range" p2) [a] [] pos2] X.env = (false, eval (.Call (.Name "range" p2) [a] [] pos2) X.env) :: starEach [] X.env := by rfl) :
    DO X W (.Call (.Name "list" p) [.Call (.Name "range" p2) [a] [] pos2] [] pos) (eLRg1 g) := by
  refine pe_imp (pe_listRg hc hg hm (prg_1 hg2 hm2 ha na2) na) fun σ H Q hq => ?_
  obtain ⟨C, l, rw, G, S, hp⟩ := hq
  refine seqD (P := POq X.K W C l σ H G Q) S hp (fun _ _ z => z) (fun z => z) fun d rw1 v H1 G1 S1 s1 r1 h1 => ?_
  dsimp only [POq] at h1
  cases d with
  | int n =>
    dsimp only at h1
    by_cases hn : -1000000 ≤ n ∧ n ≤ 1000000
    case neg => rw [if_neg hn] at h1; exact h1.elim
    rw [if_pos hn] at h1
    unfold Rep at r1
    have h0 : (-1000000 : Int) ≤ 0 ∧ (0 : Int) ≤ 1000000 := by decide
    have en : n.toNat = (n - 0).toNat := by rw [Int.sub_zero]
    rw [en] at h1
    exact ⟨n, r1, rgOk_of h0 hn, own_rg h0 hn S1 s1 h1⟩
  | _ => exact h1.elim
theorem do_lrg2 {a b : Expr} {p pos : Pos} {p2 pos2 : Pos} {g1 g2 : EM D} (hc : X.calm = true) (hg : Gl X "list") (hm : X.mg "list" = none) (hg2 : Gl X "range") (hm2 : X.mg "range" = none) (ha : DE X W a g1) (hb : DE X W b g2)
    (na2 : starEach [a, b] X.env = (false, eval a X.env) :: starEach [b] X.env := by rfl) (nb2 : starEach [b] X.env = (false, eval b X.env) :: starEach [] X.env := by rfl) (hpl : (backTo pos2 (starEach [b] X.env)).any (·.1) = false := by rfl)
    (na : starEach [.Call (.Name "range" p2) [a, b] [] pos2] X.env = (false, eval (.Call (.Name "range" p2) [a, b] [] pos2) X.env) :: starEach [] X.env := by rfl) :
    DO X W (.Call (.Name "list" p) [.Call (.Name "range" p2) [a, b] [] pos2] [] pos) (eLRg2 g1 g2) := by
  refine pe_imp (pe_listRg hc hg hm (prg_2 hg2 hm2 ha hb na2 nb2 hpl) na) fun σ H Q hq => ?_
  obtain ⟨C, l, rw, G, S, hp⟩ := hq
  refine seqD (P := POq X.K W C l σ H G Q) S hp (fun _ _ z => z) (fun z => z) fun d rw1 v H1 G1 S1 s1 r1 h1 => ?_
  refine seqD (P := POq X.K W C l σ H G Q) S1 h1 (fun _ _ z => z) (fun z => z) fun d2 rw2 v2 H2 G2 S2 s2 r2 h2 => ?_
  dsimp only [POq] at h2
  cases d with
  | int i =>
    cases d2 with
    | int n =>
      dsimp only at h2
      by_cases hn : (-1000000 ≤ i ∧ i ≤ 1000000) ∧ -1000000 ≤ n ∧ n ≤ 1000000
      case neg => rw [if_neg hn] at h2; exact h2.elim
      rw [if_pos hn] at h2
      unfold Rep at r1 r2
      exact ⟨i, n, r1, r2, rgOk_of hn.1 hn.2, own_rg hn.1 hn.2 S2 (s1.trans s2) h2⟩
    | _ => exact h2.elim
  | _ => cases d2 <;> exact h2.elim
/-! ### own[i] = v, own.pop() -/
def sStore (i : Nat) (gk gv : EM D) : SM := fun l rw => match l[i]? with
  | some (.own (.lst ds)) => (gv l rw).bind fun p => (gk l p.2).bind fun q => (match q.1 with
    | .int k => (match ixN ds.length k with
      | some j => .ok (.next, l.set i (.own (.lst (ds.set j p.1))), q.2)
      | none => .stuck)
    | _ => .stuck)
  | _ => .stuck
theorem ds_store {i : Nat} {st : Stmt} {gk gv : EM D} (h : PS X st (tAsg (tD X.K W gv) (gSub (tVar i) (tD X.K W gk) rSetL))) : DS X W own st (sStore i gk gv) := by
  refine ps_imp h fun E σ H hq => ?_
  obtain ⟨C, l, rw, G, S, hp⟩ := hq
  unfold sStore at hp
  split at hp
  case h_2 => exact hp.elim
  case h_1 ds e0 =>
    refine seqD (P := PSq X.K W own C E) S hp (fun x w z H' G' S' => z l σ H' G' S') (fun z => z) fun d1 rw1 v1 H1 G1 S1 s1 r1 h1 => ?_
    obtain ⟨p, e1, _⟩ := S1.ownAt e0
    refine ⟨.ref p, e1, ?_⟩
    refine seqD (P := PSq X.K W own C E) S1 h1 (fun x w z H' G' S' => z l σ H' G' S') (fun z => z) fun d2 rw2 v2 H2 G2 S2 s2 r2 h2 => ?_
    dsimp only [PSq] at h2
    cases d2 with
    | int k =>
      dsimp only at h2
      cases ej : ixN ds.length k with
      | none => rw [ej] at h2; exact h2.elim
      | some j =>
        rw [ej] at h2
        unfold Rep at r2
        subst r2
        obtain ⟨p', e1', ow⟩ := S2.ownAt e0
        rw [e1] at e1'; cases e1'
        obtain ⟨q, eq, hg, h0, hr, vs, b1, b2, b3⟩ := ow
        cases eq
        refine ⟨p, vs, k, j, rfl, rfl, b1, by rw [← b3.length]; exact ej, ?_⟩
        exact h2 σ _ G2 (S2.mutAt e0 e1 rfl ⟨_, rfl, by rw [List.length_set]; exact b2, b3.set j (r1.mono s2.g)⟩)
    | _ => exact h2.elim
/-- target = own.pop() -/
def sPopG (i : Nat) (tg : D → Dl → Option Dl) : SM := fun l rw => match l[i]? with
  | some (.own (.lst ds)) => (match ds.getLast? with
    | some d => (match tg d (l.set i (.own (.lst ds.dropLast))) with
      | some l' => .ok (.next, l', rw)
      | none => .stuck)
    | none => .stuck)
  | _ => .stuck
theorem Reps.dropLast {K : PySem.W.Frag} {r : Option Addr} {G : Hp} {ds : List D} {vs : List V} (h : Reps K r G ds vs) : Reps K r G ds.dropLast vs.dropLast := by
  rw [List.dropLast_eq_take, List.dropLast_eq_take, h.length]
  exact h.take _
theorem ds_popG {i : Nat} {tgt e : Expr} {pos : Pos} {js : List Nat} {tg : D → Dl → Option Dl} (hst : PS X (.Assign [tgt] e pos) (tAsg (tBM0 X.K "list" rPop (tVar i)) (tG X.K js tg))) : DS X W own (.Assign [tgt] e pos) (sPopG i tg) := by
  refine ps_imp hst fun E σ H hq => ?_
  obtain ⟨C, l, rw, G, S, hp⟩ := hq
  unfold sPopG at hp
  split at hp
  case h_2 => exact hp.elim
  case h_1 ds e0 =>
    obtain ⟨p, e1, ow⟩ := S.ownAt e0
    obtain ⟨q, eq, hg, h0, hr, vs, b1, b2, b3⟩ := ow
    cases eq
    cases e2 : ds.getLast? with
    | none => rw [e2] at hp; exact hp.elim
    | some d =>
      rw [e2] at hp
      dsimp only at hp
      cases e3 : tg d (l.set i (.own (.lst ds.dropLast))) with
      | none => rw [e3] at hp; exact hp.elim
      | some l' =>
        rw [e3] at hp
        rw [List.getLast?_eq_getElem?] at e2
        obtain ⟨v, e4, rv⟩ := b3.get e2
        rw [b3.length] at e4
        refine ⟨.ref p, e1, .inl ⟨rfl, _, .of b1⟩, p, vs, v, rfl, rfl, b1, e4, ?_⟩
        have S2 := S.mutAt (o' := .lst vs.dropLast) e0 e1 (d' := .lst ds.dropLast) rfl ⟨_, rfl, by rw [List.length_dropLast]; omega, b3.dropLast⟩
        exact ⟨C, _, rw, G, d, l', S2, rv, e3, fun σ' S' _ => hp σ' _ G S'⟩
/-! ### x not in range(a, b) -/
def eNotRg (gx g1 g2 : EM D) : EM D := fun l rw => (gx l rw).bind fun p => (g1 l p.2).bind fun q => (g2 l q.2).bind fun t => match p.1, q.1, t.1 with
  | .int x, .int a, .int b => .ok (.bl (!decide (a ≤ x ∧ x < b)), t.2)
  | _, _, _ => .stuck
theorem op_notIn_rng : OpR X (compareOp .NotIn) (fun x y H Q => ∃ i a lo hi, x = V.int i ∧ y = V.ref a ∧ H a = some (.rng lo hi) ∧ Q (.bl (!decide (lo ≤ i ∧ i < hi))) H) := by
  intro pins s σ H x y v u Q I rx ry h
  obtain ⟨i, a, lo, hi, rfl, rfl, ha, q⟩ := h
  obtain ⟨k, rfl⟩ := rx
  obtain rfl : u = Value.ref a := ry
  obtain ⟨t1, t2, t3, ho⟩ := I.hok a _ ha
  show wpAny _ _ (do return Value.bool (!(← contains (Value.ref a) (Value.int i k)))) _ _ s
  have T : s.TypeIs (Value.ref a) "range" := ⟨_, ho, rfl⟩
  refine wpAny_bind (wpAny_contains_slot T PySem.F.slot_range_contains (call_meets PySem.F.slot_range_contains T PySem.F.entry_range_contains (PySem.F.args_range_contains_2 _ _) (q_contains a lo hi i t1 t2 t3 k)
    ⟨ho, wpAny_truthy_bool (wpAny_pure ⟨.bl _, H, I, rfl, ?_⟩)⟩))
  rw [place1]
  exact q
def tNotRg (K : PySem.W.Frag) (W : WD) (gx g1 g2 : EM D) : TE := tOp (fun x y H Q => ∃ i a lo hi, x = V.int i ∧ y = V.ref a ∧ H a = some (.rng lo hi) ∧ Q (.bl (!decide (lo ≤ i ∧ i < hi))) H) (tD K W gx) (fun σ H Q => tCons (tD K W g1) (tCons (tD K W g2) tNil) σ H fun vs H2 => (fun vs H Q => ∃ i j, vs = [V.int i, V.int j] ∧ ∀ p, H p = none → Q (.ref p) (upd H p (.rng i j))) vs H2 Q)
theorem redNotRg {gx g1 g2 : EM D} : ∀ σ H Q, tD X.K W (eNotRg gx g1 g2) σ H Q → tNotRg X.K W gx g1 g2 σ H Q := by
  intro σ H Q hq
  obtain ⟨C, l, rw, G, S, hp⟩ := hq
  refine seqD (P := PEq X.K W C l σ H G Q) S hp (fun _ _ z => z) (fun z => z) fun d rw1 v H1 G1 S1 s1 r1 h1 => ?_
  refine seqD (P := PEq X.K W C l σ H G Q) S1 h1 (fun _ _ z => z) (fun z => z) fun d2 rw2 v2 H2 G2 S2 s2 r2 h2 => ?_
  refine seqD (P := PEq X.K W C l σ H G Q) S2 h2 (fun _ _ z => z) (fun z => z) fun d3 rw3 v3 H3 G3 S3 s3 r3 h3 => ?_
  dsimp only [PEq] at h3
  cases d with
  | int i =>
    cases d2 with
    | int lo =>
      cases d3 with
      | int hi =>
        unfold Rep at r1 r2 r3
        subst r1 r2 r3
        refine ⟨lo, hi, rfl, fun p hp0 => ⟨i, p, lo, hi, rfl, rfl, upd_same, ?_⟩⟩
        exact h3 _ _ G3 (S3.newO hp0) (((s1.trans s2).trans s3).trans (Gr.newO S3.sub hp0)) (by unfold Rep; rfl)
      | _ => exact h3.elim
    | _ => cases d3 <;> exact h3.elim
  | _ => cases d2 <;> cases d3 <;> exact h3.elim
theorem de_notRg {x a b : Expr} {p2 pos2 pos : Pos} {gx g1 g2 : EM D} (hg2 : Gl X "range") (hm2 : X.mg "range" = none) (hx : DE X W x gx) (ha : DE X W a g1) (hb : DE X W b g2)
    (na2 : starEach [a, b] X.env = (false, eval a X.env) :: starEach [b] X.env := by rfl) (nb2 : starEach [b] X.env = (false, eval b X.env) :: starEach [] X.env := by rfl) (hpl : (backTo pos2 (starEach [b] X.env)).any (·.1) = false := by rfl)
    (hm : behindInMarks .NotIn (.Call (.Name "range" p2) [a, b] [] pos2) = false := by rfl) :
    DE X W (.Compare x [.NotIn] [.Call (.Name "range" p2) [a, b] [] pos2] pos) (eNotRg gx g1 g2) := by
  exact pe_imp (pe_cmpR op_notIn_rng hx (pe_callTy cr_range2 hg2 hm2 (by decide +kernel) (pa_cons ha (pa_cons hb pa_nil nb2) na2) (he := na2) (hpl := hpl)) hm) redNotRg
theorem dt_notRg {x a b : Expr} {p2 pos2 pos : Pos} {gx g1 g2 : EM D} (hg2 : Gl X "range") (hm2 : X.mg "range" = none) (hx : DE X W x gx) (ha : DE X W a g1) (hb : DE X W b g2)
    (na2 : starEach [a, b] X.env = (false, eval a X.env) :: starEach [b] X.env := by rfl) (nb2 : starEach [b] X.env = (false, eval b X.env) :: starEach [] X.env := by rfl) (hpl : (backTo pos2 (starEach [b] X.env)).any (·.1) = false := by rfl)
    (hm : behindInMarks .NotIn (.Call (.Name "range" p2) [a, b] [] pos2) = false := by rfl) :
    DT X W (.Compare x [.NotIn] [.Call (.Name "range" p2) [a, b] [] pos2] pos) (toB (eNotRg gx g1 g2)) := by
  exact pt_imp (pt_cmpR op_notIn_rng hx (pe_callTy cr_range2 hg2 hm2 (by decide +kernel) (pa_cons ha (pa_cons hb pa_nil nb2) na2) (he := na2) (hpl := hpl)) hm) fun σ H Q hq => redNotRg _ _ _ (redB σ H Q hq)
end
end HD
end
section
/-! The data layer: sorted(xs, key=lambda one: ..). -/
namespace HD
open PySem PySem.Spec L2
open PyProof.Rows hiding St
section
variable {X : Cx} {pins : List (Addr × Obj)} {σ : L2.St} {H : Hp} {s : Shared}
/-- a lambda is made: all but the tables stays, the tables stay good -/
theorem lam_mk {c P : Addr} {params : Arguments} {body : Expr} {scope : Scope} {pos : Pos} {E : Value → Shared → Prop} {Q : Value → Shared → Prop} (I : Inv X pins σ H s) (TB : LamX.TabB X.base X.mg c P) (hcode : X.env.code = .ref c)
    (hm : (P, X.env.qual ++ ("<lambda>" : Str)) ∈ tabT X.K) (hu : ∀ p ∈ tabT X.K, p.1 = P → p.2 = X.env.qual ++ ("<lambda>" : Str)) (hT : LamX.Tabs (tabT X.K) H) (hdef : defaultsOf params X.env = ([], [])) (hfree : ∀ y ∈ scope.names, y.2 = .free → ∃ c, X.env.cells.lookup y.1 = some c)
    (h : ∀ (f c' : Addr) (pm ctv : Value) (H1 : Hp) (s' : Shared), Inv X pins σ H1 s' → (∀ a o, H a = some o → nTb o → H1 a = some o) → (∀ a o, H a = some o → ∃ o', H1 a = some o') → LamX.Tabs (tabT X.K) H1 →
      s'.heap.get? f = some (PySem.W.kla_obj "<lambda>" (X.env.qual ++ ("<lambda>" : Str)) params body scope (cloFrom X.env.cells scope.names []) pm c' ctv) → H1 f = none → f ∉ frs X.stack → H1 c' = some (LamX.CodeO c' (X.env.qual ++ ("<lambda>" : Str))) → Q (.ref f) s') :
    wpAny (model X.prog X.w) X.A (eval (.Lambda params body scope pos) X.env) Q E s := by
  obtain ⟨ps, hP, ht, ha⟩ := hT _ hm
  have hP' : s.heap.get? P = some { cls := .none, data := .fields ps } := I.hok P _ hP
  have bP := TB.bm.keeps I.bk
  have away : ∀ f, s.heap.objs.size ≤ f → f ∉ frs X.stack := fun f hf z => by
    rcases List.mem_cons.mp (I.stkSub _ z) with e | e
    · rw [e] at hf
      exact absurd I.lt (Nat.not_lt.mpr hf)
    · exact I.nofs hf e
  refine PySem.W.kla_eval hdef ?_
  cases hc : codeAmong pos ps.toList with
  | some cv =>
    obtain ⟨c', e, hco⟩ := ha pos cv hc
    subst e
    refine PySem.W.kla_makeFunctionHit (mg := X.mg) (c := c) (P := P) (ps := ps) (closure_ok hfree) I.ok.glob (I.mod.glob.keeps I.bk) hcode (TB.code.keeps I.bk) hP' ht hc bP fun ctv h' tk hx hsz => ?_
    exact h _ c' _ ctv H _ (I.kept (t' := tk) fun b o e => Heap.get?_push_of_some _ (hx b o e)) (fun _ _ e _ => e) (fun a o e => ⟨o, e⟩) hT (Heap.get?_push_size _ rfl) (I.hok.fresh hsz) (away _ hsz) hco
  | none =>
    refine PySem.W.kla_makeFunction (mg := X.mg) (c := c) (P := P) (ps := ps) (closure_ok hfree) I.ok.glob (I.mod.glob.keeps I.bk) hcode (TB.code.keeps I.bk) hP' ht hc TB.gP bP fun c' ctv h' tk hx hge hlt hrec htb => ?_
    obtain ⟨c2, oc, vs, t, e2, hoc, hd, hv⟩ := hrec
    cases e2
    have hsz : s.heap.objs.size ≤ h'.objs.size := Nat.le_trans hge (Nat.le_of_lt hlt)
    have nC : H c' = none := I.hok.fresh hge
    have cP : c' ≠ P := fun z => by rw [z, hP] at nC; cases nC
    have I1 := LamX.inv_table (q := X.env.qual ++ ("<lambda>" : Str)) (t' := tk) (more := #[rawInt pos.line, rawInt pos.col, .ref c']) (h' := h'.push (PySem.W.kla_obj "<lambda>" (X.env.qual ++ ("<lambda>" : Str)) params body scope (cloFrom X.env.cells scope.names []) ((X.mg "__name__").getD .none) c' ctv)) I hP
      (fun b o hb e => Heap.get?_push_of_some _ (hx b o hb e)) (Heap.get?_push_of_some _ htb) hge ⟨oc, vs, t, Heap.get?_push_of_some _ hoc, hd, hv⟩
    have st : ∀ a o, H a = some o → nTb o → (upd (upd H P (.tbl (ps ++ #[rawInt pos.line, rawInt pos.col, .ref c']))) c' (LamX.CodeO c' (X.env.qual ++ ("<lambda>" : Str)))) a = some o := fun a o e n => by
      rw [upd_ne (ne_of_none e nC), upd_ne (fun z => n ps (by rw [z, hP] at e; exact (Option.some.inj e).symm))]
      exact e
    refine h _ c' _ ctv _ _ I1 st (fun a o e => ?_) (fun p hp => ?_) (Heap.get?_push_size _ rfl) ?_ (away _ hsz) upd_same
    · by_cases z : a = P
      · rw [z]; exact ⟨_, by rw [upd_ne (Ne.symm cP), upd_same]⟩
      · exact ⟨o, by rw [upd_ne (ne_of_none e nC), upd_ne z]; exact e⟩
    · have keepC : ∀ cv, (∃ c0, cv = Value.ref c0 ∧ H c0 = some (LamX.CodeO c0 p.2)) → ∃ c0, cv = Value.ref c0 ∧ (upd (upd H P (.tbl (ps ++ #[rawInt pos.line, rawInt pos.col, .ref c']))) c' (LamX.CodeO c' (X.env.qual ++ ("<lambda>" : Str)))) c0 = some (LamX.CodeO c0 p.2) := fun cv ⟨c0, e1, e2⟩ => ⟨c0, e1, st _ _ e2 fun _ => LamX.codeO_ne _⟩
      by_cases hb : p.1 = P
      · rw [hb]
        refine ⟨_, by rw [upd_ne (Ne.symm cP), upd_same], ?_, fun p' cv hcv => ?_⟩
        · rw [Array.toList_append]; exact PySem.TriplesOk_snoc _ _ _ _ ht
        · rw [Array.toList_append] at hcv
          rcases LamX.among_app _ ht hcv with z | z
          · exact keepC cv (by rw [hu p hp hb]; exact ha p' cv z)
          · exact ⟨c', z, by rw [hu p hp hb]; exact upd_same⟩
      · obtain ⟨ps', a1, a2, a3⟩ := hT p hp
        exact ⟨ps', by rw [upd_ne (ne_of_none a1 nC), upd_ne hb]; exact a1, a2, fun p' cv hcv => keepC cv (a3 p' cv hcv)⟩
    · rw [upd_ne (Nat.ne_of_gt hlt), upd_ne (fun z => by rw [z] at hsz; exact absurd (Heap.lt_size hP') (Nat.not_lt.mpr hsz))]
      exact I.hok.fresh hsz
/-- the names of a lambda of one parameter x, nothing captured -/
structure KScope (scope : Scope) (x : Str) : Prop where
  kind : scope.kind = .function
  co : scope.isCoroutine = false
  gen : scope.isGenerator = false
  cell : ∀ y ∈ scope.names, y.2 ≠ .cell
  free : ∀ y ∈ scope.names, y.2 ≠ .free
  loc : scope.names.lookup x = some .local
theorem KScope.clo {scope : Scope} {x : Str} (L : KScope scope x) (cells : List (Str × Addr)) : cloFrom cells scope.names [] = [] := by
  have : ∀ (ns : List (Str × NameKind)), (∀ y ∈ ns, y.2 ≠ .free) → cloFrom cells ns [] = [] := by
    intro ns
    induction ns with
    | nil => intro _; rfl
    | cons y ys ih =>
      intro h
      obtain ⟨a, k⟩ := y
      have h1 := h (a, k) List.mem_cons_self
      have h2 := ih fun z hz => h z (List.mem_cons_of_mem _ hz)
      cases k <;> first | exact absurd rfl h1 | exact h2
  exact this _ L.free
abbrev kEnv (X : Cx) (scope : Scope) (L f c' : Addr) : Env := PySem.W.envX (X.env.qual ++ ("<lambda>" : Str)) scope L f (.ref c') []
/-- what a key lambda's body tells of a value -/
def KeyBody (X : Cx) (body : Expr) (scope : Scope) (x : Str) (h : Heap) (v : Value) (k : PyData) : Prop :=
  ∀ (A : Around) (L f c' : Addr) (s2 : Shared), s2.heap.Ns L (fun y => ([(x, v)] : List (Str × Value)).reverse.lookup y) → (∀ b o, h.get? b = some o → s2.heap.get? b = some o) → A.units < cLine →
    wpAny (model X.prog X.w) A (eval body (kEnv X scope L f c')) (fun u s3 => ∃ h' tk', s3 = { s2 with heap := h', toks := tk' } ∧ (∀ b o, s2.heap.get? b = some o → h'.get? b = some o) ∧ PySem.Reads h' u k []) (fun _ _ => False) s2
theorem key_run {A : Around} {f c' : Addr} {params : Arguments} {body : Expr} {scope : Scope} {x : Str} {pm ctv : Value} {v : Value} {k : PyData} {h : Heap} {tk : Nat} (lim : s.heap.NoLimit) (hf : s.heap.get? f = some (PySem.W.kla_obj "<lambda>" (X.env.qual ++ ("<lambda>" : Str)) params body scope [] pm c' ctv))
    (hcd : s.heap.CodeRec (.ref c') (X.env.qual ++ ("<lambda>" : Str))) (L : KScope scope x) (hbind : ∀ (q : Str) (pm cv ctv u : Value), bindArgs (PySem.W.kla_fn "<lambda>" q params body scope [] pm cv ctv) ⟨[u], []⟩ = pure [(x, u)])
    (hk : ∀ b o, s.heap.get? b = some o → h.get? b = some o) (hA : A.depth < recursionLimit) (hu : A.units + 3 < cLine) (hb : KeyBody X body scope x s.heap v k) :
    wpAny (model X.prog X.w) A (call (.ref f) [v]) (PySem.W.KeyPure k { s with heap := h, toks := tk }) (fun _ _ => False) { s with heap := h, toks := tk } := by
  have hcd' : h.CodeRec (.ref c') (X.env.qual ++ ("<lambda>" : Str)) := by
    obtain ⟨c, oc, vs, tq, e, e1, e2, e3⟩ := hcd
    exact ⟨c, oc, vs, tq, e, hk _ _ e1, e2, e3⟩
  refine wpAny_call (PySem.W.kla_callFunE hA (hk _ _ hf) rfl L.co L.gen rfl hcd' ?_)
  rw [hbind]
  refine wpAny_pure (wpAny_newFunctionEnv L.cell (fun y hy => ?_) (fun h₁ hns hsb => ⟨(lim.keeps hk).fresh _ hsb, ?_⟩) L.kind)
  · have e : y = (x, v) := by simpa using hy
    rw [e]; exact L.loc
  show codeAny _ _ (.expr body (kEnv X scope h.objs.size f c')) _ _
  have kp : ∀ b o, h.get? b = some o → h₁.get? b = some o := fun b o e => hsb.extBut b o (Nat.ne_of_lt (Heap.lt_size e)) (Heap.get?_push_of_some _ e)
  refine PySem.W.kla_codeExpr (wpAny_mono (hb _ _ f c' { s with heap := h₁, toks := tk + 1 } hns (fun b o e => kp b o (hk b o e)) hu) (fun u s3 hq => ?_) fun _ _ z => z.elim)
  obtain ⟨h', tk', rfl, hk2, hr⟩ := hq
  exact ⟨h', tk', rfl, fun b o e => hk2 b o (kp b o e), hr⟩
end
end HD
end
section
/-! The data layer: sorted(xs, key=lambda one: ..), its rule and its reading. -/
namespace HD
open PySem PySem.Spec L2
open PyProof.Rows hiding St
/-- what the keys are of: KH says it of a value at a heap -/
structure KeyR (X : Cx) (body : Expr) (scope : Scope) (x : Str) (KH : Hp → V → D → Prop) (kf : D → PyData) : Prop where
  body : ∀ (pins : List (Addr × Obj)) (s : Shared) (σ : L2.St) (H : Hp) (v : V) (u : Value) (d : D), Inv X pins σ H s → RelV v u → KH H v d → KeyBody X body scope x s.heap u (kf d)
  stay : ∀ (H H1 : Hp) (v : V) (d : D), (∀ a o, H a = some o → nTb o → H1 a = some o) → KH H v d → KH H1 v d
  deep : ∀ (H : Hp) (v : V) (d : D), KH H v d → (kf d).depth ≤ 8
def tSortKey (K : PySem.W.Frag) (KH : Hp → V → D → Prop) (kf : D → PyData) (ta : TA) : TE := fun σ H Q => ta σ H fun vs H1 => LamX.Tabs (tabT K) H1 ∧ ∃ (a : Addr) (xs : List V) (ds : List D) (R0 : V → D → Prop), vs = [.ref a] ∧ SqL K H1 a xs ∧ Paired R0 xs ds ∧ (∀ v d, R0 v d → KH H1 v d) ∧
  PySem.W.AllAlike (ds.map kf) ∧ PySem.W.Sortable (ds.map kf) ∧ ∀ (H2 : Hp) (p : Addr) (ys : List V), (∀ a o, H1 a = some o → nTb o → H2 a = some o) → (∀ a o, H1 a = some o → ∃ o', H2 a = some o') → LamX.Tabs (tabT K) H2 → H2 p = none →
    Paired R0 ys (ds.mergeSort (PySem.W.dataLe false kf)) → Q (.ref p) (upd H2 p (.lst ys))
theorem each_of {R0 : V → D → Prop} : ∀ {xs : List V} {us : List Value} {ds : List D}, Vals xs us → Paired R0 xs ds → PySem.W.EachIs (fun u d => ∃ v, RelV v u ∧ R0 v d) us ds
  | _, _, _, .nil, .nil => .nil
  | _, _, _, .cons r t, .cons q t' => .cons ⟨_, r, q⟩ (each_of t t')
theorem of_each {R0 : V → D → Prop} : ∀ {us : List Value} {ds : List D}, PySem.W.EachIs (fun u d => ∃ v, RelV v u ∧ R0 v d) us ds → ∃ ys, Vals ys us ∧ Paired R0 ys ds
  | _, _, .nil => ⟨[], .nil, .nil⟩
  | _, _, .cons ⟨v, r, q⟩ t => by
    obtain ⟨ys, h1, h2⟩ := of_each t
    exact ⟨v :: ys, .cons r h1, .cons q h2⟩
section
variable {X : Cx}
theorem pe_sortKey {KH : Hp → V → D → Prop} {kf : D → PyData} {c P : Addr} {e : Expr} {params : Arguments} {body : Expr} {scope : Scope} {x : Str} {p pos lpos kpos : Pos} {ta : TA} {j : Nat} (R : KeyR X body scope x KH kf) (hr : Room j X.A) (hg : Gl X "sorted") (hm : X.mg "sorted" = none) (ha : PA X [e] ta)
    (TB : LamX.TabB X.base X.mg c P) (hcode : X.env.code = .ref c) (hmT : (P, X.env.qual ++ ("<lambda>" : Str)) ∈ tabT X.K) (hu : ∀ p ∈ tabT X.K, p.1 = P → p.2 = X.env.qual ++ ("<lambda>" : Str)) (hdef : defaultsOf params X.env = ([], [])) (L : KScope scope x)
    (hbind : ∀ (q : Str) (pm cv ctv u : Value), bindArgs (PySem.W.kla_fn "<lambda>" q params body scope [] pm cv ctv) ⟨[u], []⟩ = pure [(x, u)]) (hv : bootBuiltins "sorted" = some (.builtin "sorted") := by decide +kernel)
    (he : backTo pos (starEach [e] X.env) = (false, eval e X.env) :: backTo pos (starEach [] X.env) := by rfl) (hpl : (backTo pos (starEach [e] X.env)).any (·.1) = false := by rfl) :
    PE X (.Call (.Name "sorted" p) [e] [⟨some (Str.ofString "key"), .Lambda params body scope lpos, kpos⟩] pos) (tSortKey X.K KH kf ta) := by
  refine ⟨fun pins s σ H Q I h => ?_⟩
  refine wpAny_Call_Name_kw (ld_blt I hg hm hv ?_)
  refine PyProof.Rows.callWith_kw (thn (ha.run pos pins s σ H _ I h) fun us s1 ⟨vs, H1, I1, r1, q1⟩ => ?_) he hpl rfl rfl
  obtain ⟨hT, a, xs, ds, R0, rfl, hq, hp, hK, hal, hsk, q⟩ := q1
  obtain rfl := Vals.ref1 r1
  show wpAny _ _ (evalAll [(do let v ← eval (.Lambda params body scope lpos) X.env; standAt pos; pure v)]) _ _ s1
  refine wpAny_evalAll_cons (wpAny_bind (lam_mk I1 TB hcode hmT hu hT hdef (fun y hy z => absurd z (L.free y hy)) fun f c' pm ctv H2 s2 I2 k2 t2 T2 hf hfn hfr hco => wpAny_bind (wpAny_standAt (wpAny_pure (wpAny_evalAll_nil ?_)))))
  rw [L.clo] at hf
  show wpAny _ _ (call (.builtin "sorted") [.ref a] [(Str.ofString "key", .ref f)]) _ _ s2
  have hq2 : SqL X.K H2 a xs := by
    rcases hq with (hq | ⟨o, hq⟩) | hq
    · exact .inl (.inl (k2 _ _ hq fun _ z => nomatch z))
    · exact .inl (.inr ⟨o, k2 _ _ hq fun _ z => nomatch z⟩)
    · exact .inr hq
  obtain ⟨its, rv, pl, hz⟩ := I2.list hq2
  have hld : xs.length = ds.length := Paired.length hp
  have hun := hr.un
  have hcd : s2.heap.CodeRec (.ref c') (X.env.qual ++ ("<lambda>" : Str)) := by
    obtain ⟨⟨oc, vs, t, e1, e2, e3⟩, _⟩ := I2.hok c' _ hco
    exact ⟨c', oc, vs, t, rfl, e1, e2, e3⟩
  refine PySem.W.sorted_key_data (β := D) (R := fun u d => ∃ v, RelV v u ∧ R0 v d) (b := false) kf pl.isList (each_of rv hp) hal hsk (by omega) (fun d hd => ?_) (PyProof.Rows.ksk_s1 _ _) (fun _ => PyProof.Rows.ksk_l1 _ _) (fun _ => PyProof.Rows.ksk_t1 f _)
    (fun u d hud hd h tk hk => ?_) (fun out cc h' tk hk fresh hD hlen he2 => ?_)
  · obtain ⟨v, _, r0⟩ : ∃ v, v ∈ xs ∧ R0 v d := by
      have : ∀ {xs : List V} {ds : List D}, Paired R0 xs ds → d ∈ ds → ∃ v, v ∈ xs ∧ R0 v d := by
        intro xs ds h
        induction h with
        | nil => intro h; exact absurd h (by simp)
        | cons a b ih =>
          intro h
          rcases List.mem_cons.mp h with rfl | h
          · exact ⟨_, List.mem_cons_self, a⟩
          · obtain ⟨v, h1, h2⟩ := ih h
            exact ⟨v, List.mem_cons_of_mem _ h1, h2⟩
      exact this hp hd
    have := R.deep H1 v d (hK v d r0)
    omega
  · obtain ⟨v, ru, r0⟩ := hud
    exact key_run I2.nolimit hf hcd L hbind hk hr.depth (by show X.A.units + 1 + 1 + 3 < cLine; omega) (R.body pins s2 σ H2 v u d I2 ru (R.stay H1 H2 v d k2 (hK v d r0)))
  · obtain ⟨ys, hy1, hy2⟩ := of_each he2
    have hyl : ys.length = ds.length := by rw [hy1.length, hlen]
    refine ⟨.ref _, upd H2 _ (.lst ys), I2.laid (t' := tk) hk (Nat.le_succ _) ⟨by omega, out, cc, hy1, hD⟩, rfl, q H2 _ ys k2 t2 T2 (I2.hok.fresh (Nat.le_succ _)) hy2⟩
end
/-! ### the readings -/
theorem RowOk.grown {K : PySem.W.Frag} {r : Option Addr} {rw : Rw} {H G H' : Hp} (h : RowOk K r rw H G) (e : ∀ a o, H a = some o → nTb o → H' a = some o) : RowOk K r rw H' G := by
  unfold RowOk at h ⊢
  cases r with
  | none => cases rw <;> exact h
  | some a =>
    cases rw with
    | none => exact h
    | some w =>
      obtain ⟨h1, v, h2, h3⟩ := h
      exact ⟨h1, v, e _ _ h2 nTb_lst, h3⟩
section
variable {X : Cx} {W : WD}
def sortKeyD (kf : D → PyData) (ok : D → Bool) : List D → Option D
  | [.lst ds] => if ds.all ok = true then some (.lst (ds.mergeSort (PySem.W.dataLe false kf))) else none
  | _ => none
theorem paired_reps {K : PySem.W.Frag} {r : Option Addr} {G : Hp} : ∀ {ds : List D} {vs : List V}, Reps K r G ds vs → Paired (fun v d => Rep K r G d v) vs ds
  | [], vs, h => by unfold Reps at h; subst h; exact .nil
  | d :: ds, vs, h => by
    unfold Reps at h
    obtain ⟨v, t, rfl, h1, h2⟩ := h
    exact .cons h1 (paired_reps h2)
theorem reps_paired {K : PySem.W.Frag} {r : Option Addr} {G : Hp} : ∀ {vs : List V} {ds : List D}, Paired (fun v d => Rep K r G d v) vs ds → Reps K r G ds vs
  | _, _, .nil => Reps.nil
  | _, _, .cons h t => Reps.cons h (reps_paired t)
theorem redSortKey {KH : Hp → V → D → Prop} {kf : D → PyData} {ok : D → Bool} {g : EM (List D)} (hK : ∀ (r : Option Addr) (G H : Hp) (d : D) (v : V), Same G H → Rep X.K r G d v → ok d = true → KH H v d) (hal : ∀ d e, ok d = true → ok e = true → PySem.W.alike (kf d) (kf e) = true)
    (hsk : ∀ d, ok d = true → ∃ x r, kf d = .tuple (x :: r)) : ∀ σ H Q, tO X.K W (eArgs (sortKeyD kf ok) g) σ H Q → tSortKey X.K KH kf (tA X.K W g) σ H Q := by
  intro σ H Q hq
  obtain ⟨C, l, rw, G, S, hp⟩ := hq
  refine seqA (P := POq X.K W C l σ H G Q) S hp (fun _ _ z => z) (fun z => z) fun ds rw1 vs H1 G1 S1 s1 r1 h1 => ?_
  dsimp only [POq] at h1
  cases e3 : sortKeyD kf ok ds with
  | none => rw [e3] at h1; exact h1.elim
  | some d =>
    rw [e3] at h1
    unfold sortKeyD at e3
    split at e3
    case h_2 => cases e3
    case h_1 xs =>
      split at e3
      case isFalse => cases e3
      case isTrue hok =>
        cases e3
        obtain ⟨v, rfl, r2⟩ := reps1 r1
        unfold Rep at r2
        obtain ⟨a, us, rfl, a1, a2, a3⟩ := r2
        have hok' : ∀ d ∈ xs, ok d = true := List.all_eq_true.mp hok
        refine ⟨S1.tabs, a, us, xs, fun v d => Rep X.K C.r G1 d v ∧ ok d = true, rfl, .of (S1.sub _ _ a1), ?_, fun v d h => hK C.r G1 H1 d v S1.sub h.1 h.2, ?_, ?_, fun H2 p ys k2 t2 T2 hp2 hy => ?_⟩
        · have : ∀ {vs : List V} {ds : List D}, Paired (fun v d => Rep X.K C.r G1 d v) vs ds → (∀ d ∈ ds, ok d = true) → Paired (fun v d => Rep X.K C.r G1 d v ∧ ok d = true) vs ds := by
            intro vs ds h
            induction h with
            | nil => intro _; exact .nil
            | cons h t ih => intro hd; exact .cons ⟨h, hd _ List.mem_cons_self⟩ (ih fun d hd' => hd d (List.mem_cons_of_mem _ hd'))
          exact this (paired_reps a3) hok'
        · intro x hx y hy
          obtain ⟨d, hd, rfl⟩ := List.mem_map.mp hx
          obtain ⟨e, he, rfl⟩ := List.mem_map.mp hy
          exact hal d e (hok' d hd) (hok' e he)
        · refine .inl fun x hx => ?_
          obtain ⟨d, hd, rfl⟩ := List.mem_map.mp hx
          exact hsk d (hok' d hd)
        · have g2 : Gr X.K C.r H1 G1 H2 G1 := ⟨fun a o e _ nt => k2 a o e nt, Same.refl _, fun a o e => .inl e, fun a o e => k2 a o (S1.sub a o e) (S1.gt a o e), t2, fun _ => T2⟩
          have S2 : SR X.K C l rw1 σ H2 G1 := S1.grow g2 (S1.row.grown k2)
          have hr2 : Reps X.K C.r G1 (xs.mergeSort (PySem.W.dataLe false kf)) ys := reps_paired (Paired.mapP hy fun _ _ z => z.1)
          refine h1 p _ _ (S2.newO hp2) ((s1.trans g2).trans (Gr.newO S2.sub hp2)) ?_ (S2.ownNew hp2 ⟨_, rfl, ?_, hr2⟩ rfl)
          · cases z : H p with
            | none => rfl
            | some o => obtain ⟨o', z2⟩ := (s1.trans g2).t _ _ z; rw [hp2] at z2; cases z2
          · rw [← hr2.length, List.length_mergeSort, a3.length]; exact a2
end
end HD
end
section
/-! The data layer: the key lambdas of the program. -/
namespace HD
open PySem PySem.Spec L2
open PyProof.Rows hiding St
theorem SqT.grown {K : PySem.W.Frag} {H H1 : Hp} {a : Addr} {xs : List V} (e : ∀ a o, H a = some o → nTb o → H1 a = some o) (h : SqT K H a xs) : SqT K H1 a xs := by
  rcases h with (h | ⟨o, h⟩) | h
  · exact .inl (.inl (e _ _ h fun _ z => nomatch z))
  · exact .inl (.inr ⟨o, e _ _ h fun _ z => nomatch z⟩)
  · exact .inr h
/-- the keys (len(one), one), one a tuple of whole numbers -/
def KH1 (K : PySem.W.Frag) (H : Hp) (v : V) (d : D) : Prop := ∃ (t : Addr) (ns : List Int), v = .ref t ∧ d = .tup (ns.map D.int) ∧ SqT K H t (ns.map V.int) ∧ ns.length ≤ 1000
def kf1 : D → PyData
  | .tup xs => .tuple [.int (xs.length : Nat), .tuple (toPys xs)]
  | _ => .tuple [.int 0, .tuple []]
def ok1 : D → Bool
  | .tup xs => (match toInts xs with
    | some ns => decide (ns.length ≤ 1000)
    | none => false)
  | _ => false
theorem toPys_ints : ∀ ns : List Int, toPys (ns.map D.int) = ns.map PyData.int
  | [] => by simp [toPys]
  | n :: ns => by simp [toPys, toPy, toPys_ints ns]
theorem readsAll_ints {h : Heap} : ∀ {ns : List Int} {us : List Value}, Vals (ns.map V.int) us → PySem.ReadsAll h us (ns.map PyData.int) []
  | [], _, r => by cases r; exact .nil
  | n :: ns, _, r => by
    cases r with
    | cons a b =>
      obtain ⟨t, rfl⟩ := a
      exact .cons (as := []) (bs := []) (.int n t) (readsAll_ints b)
theorem ok1_ints {d : D} (h : ok1 d = true) : ∃ ns : List Int, d = .tup (ns.map D.int) ∧ ns.length ≤ 1000 := by
  unfold ok1 at h
  split at h
  case h_2 => cases h
  case h_1 xs =>
    split at h
    case h_2 => cases h
    case h_1 ns e => exact ⟨ns, by rw [toInts_eq e], of_decide_eq_true h⟩
theorem key1 {X : Cx} {scope : Scope} {x : Str} {p1 p2 p3 p4 pos : Pos} {j : Nat} (hx : scope.names.lookup x = some .local) (hl : scope.names.lookup (Str.ofString "len") = some .globalImplicit) (hk : scope.kind = .function) (hm : X.mg "len" = none) (hd : (x == ("__debug__" : Str)) = false := by decide) :
    KeyR X (.Tuple [.Call (.Name "len" p1) [.Name x p2] [] p3, .Name x p4] j pos) scope x (KH1 X.K) kf1 where
  stay := fun H H1 v d e ⟨t, ns, a, b, c, n⟩ => ⟨t, ns, a, b, SqT.grown e c, n⟩
  deep := fun H v d ⟨t, ns, a, b, c, n⟩ => by
    subst b
    show PyData.depth (.tuple [.int _, .tuple (toPys (ns.map D.int))]) ≤ 8
    rw [toPys_ints]
    simp [PyData.depth, PyData.depthAll, PySem.W.depth_ints]
  body := by
    rintro pins s σ H v u d I ru ⟨t, ns, rfl, rfl, hq, hn⟩ A L f c' s2 hns hk2 hA
    obtain rfl : u = Value.ref t := ru
    obtain ⟨its, rv, pl, hz⟩ := I.tuple hq
    have pl2 : IsTup s2.heap t its.toArray := let ⟨o, e, c⟩ := pl; ⟨o, hk2 _ _ e, c⟩
    have hil : its.length = ns.length := by have := rv.length; rw [List.length_map] at this; exact this.symm
    obtain ⟨mb, hb1, hb2⟩ := I.mod.blt
    have hgN : s2.heap.Ns mainGlobals X.mg := (I.mod.glob.keeps I.bk).keeps hk2
    have hbN : s2.heap.Ns builtinsNs mb := (hb1.keeps I.bk).keeps hk2
    have one : ∀ (s3 : Shared) (pp : Pos) (Q : Value → Shared → Prop) (E : Value → Shared → Prop), s3.heap = s2.heap → Q (.ref t) s3 → wpAny (model X.prog X.w) A (eval (.Name x pp) (kEnv X scope L f c')) Q E s3 := by
      intro s3 pp Q E e q
      refine wpAny_Name (wpAny_loadName_local hk hx (by rw [e]; exact hns) ?_ q) hd
      show ([(x, Value.ref t)] : List (Str × Value)).reverse.lookup x = some (.ref t)
      simp [List.lookup]
    refine wpAny_Tuple_spliced (args_cons ?_)
    refine wpAny_Call_Name_kw (Calls.Name_function_global hk hl (Calls.loadGlobal_builtin hgN hm hbN ((hb2 _ (by decide)).trans PySem.boot_len) ?_))
    refine PyProof.Rows.callWith_builtin1 (args_cons (one s2 p2 _ _ rfl (args_nil ?_)))
    refine len_tuple pl2 (by rw [List.size_toArray, hil]; omega) ?_
    refine args_cons (one _ p4 _ _ rfl (args_nil ⟨by show 2 ≤ sizeLine; rw [sizeLine_eq]; decide, ?_⟩))
    refine ⟨_, _, rfl, fun b o e => Heap.get?_push_of_some _ e, ?_⟩
    show PySem.Reads _ _ (.tuple [.int ((ns.map D.int).length : Nat), .tuple (toPys (ns.map D.int))]) []
    rw [toPys_ints, List.length_map]
    obtain ⟨o, e, c, n, dd⟩ := pl2
    refine .tuple (as := []) (Heap.get?_push_size _ rfl) rfl rfl (.cons (as := []) (bs := []) ?_ (.cons (as := []) (bs := []) ?_ .nil))
    · rw [← hil, ← List.size_toArray]; exact .int _ _
    · exact .tuple (Heap.get?_push_of_some _ e) c dd (by simpa using readsAll_ints rv)
theorem alike_ints' (xs ys : List Int) : PySem.W.alikeAll (xs.map PyData.int) (ys.map PyData.int) = true := PySem.W.alike_ints xs ys
theorem ok1_KH {K : PySem.W.Frag} (r : Option Addr) (G H : Hp) (d : D) (v : V) (s : Same G H) (rr : Rep K r G d v) (h : ok1 d = true) : KH1 K H v d := by
  obtain ⟨ns, rfl, hn⟩ := ok1_ints h
  unfold Rep at rr
  obtain ⟨a, vs, rfl, a1, a2, a3⟩ := rr
  have := Reps.ints a3
  subst this
  exact ⟨a, ns, rfl, rfl, Same.seqT s a1, hn⟩
theorem ok1_alike (d e : D) (h : ok1 d = true) (h' : ok1 e = true) : PySem.W.alike (kf1 d) (kf1 e) = true := by
  obtain ⟨ns, rfl, _⟩ := ok1_ints h
  obtain ⟨ms, rfl, _⟩ := ok1_ints h'
  show PySem.W.alike (.tuple [.int _, .tuple (toPys _)]) (.tuple [.int _, .tuple (toPys _)]) = true
  rw [toPys_ints, toPys_ints]
  simp [PySem.W.alike, PySem.W.alikeAll, alike_ints']
theorem ok1_sort (d : D) (h : ok1 d = true) : ∃ x r, kf1 d = .tuple (x :: r) := by
  obtain ⟨ns, rfl, _⟩ := ok1_ints h
  exact ⟨_, _, rfl⟩
section
variable {X : Cx} {W : WD}
/-- the def's own code object and its table, among those of the text -/
structure LamT (K : PySem.W.Frag) (mg : Str → Option Value) (base : Heap) (nm : Str) (c P : Addr) : Prop where
  tb : LamX.TabB base mg c P
  mem : (P, (nm ++ (".<locals>." : Str)) ++ ("<lambda>" : Str)) ∈ tabT K
  uni : ∀ p ∈ tabT K, p.1 = P → p.2 = (nm ++ (".<locals>." : Str)) ++ ("<lambda>" : Str)
theorem do_sortKey1 {e : Expr} {params : Arguments} {scope : Scope} {x nm : Str} {p pos lpos kpos p1 p2 p3 p4 tpos : Pos} {g : EM (List D)} {j i : Nat} {c P : Addr} (hr : Room j X.A) (hg : Gl X "sorted") (hm : X.mg "sorted" = none) (hml : X.mg "len" = none) (ha : DA X W [e] g)
    (T : LamT X.K X.mg X.base nm c P) (hq : X.env.qual = nm ++ (".<locals>." : Str)) (hcode : X.env.code = .ref c) (hdef : defaultsOf params X.env = ([], [])) (L : KScope scope x) (hl : scope.names.lookup (Str.ofString "len") = some .globalImplicit)
    (hbind : ∀ (q : Str) (pm cv ctv u : Value), bindArgs (PySem.W.kla_fn "<lambda>" q params (.Tuple [.Call (.Name "len" p1) [.Name x p2] [] p3, .Name x p4] i tpos) scope [] pm cv ctv) ⟨[u], []⟩ = pure [(x, u)]) (hd : (x == ("__debug__" : Str)) = false := by decide)
    (he : backTo pos (starEach [e] X.env) = (false, eval e X.env) :: backTo pos (starEach [] X.env) := by rfl) (hpl : (backTo pos (starEach [e] X.env)).any (·.1) = false := by rfl) :
    DO X W (.Call (.Name "sorted" p) [e] [⟨some (Str.ofString "key"), .Lambda params (.Tuple [.Call (.Name "len" p1) [.Name x p2] [] p3, .Name x p4] i tpos) scope lpos, kpos⟩] pos) (eArgs (sortKeyD kf1 ok1) g) :=
  pe_imp (pe_sortKey (key1 L.loc hl L.kind hml hd) hr hg hm ha T.tb hcode (by rw [hq]; exact T.mem) (by rw [hq]; exact T.uni) hdef L hbind (he := he) (hpl := hpl)) (redSortKey ok1_KH ok1_alike ok1_sort)
end
end HD
end
section
/-! The data layer: the head with tables of code objects; a def that makes lambdas. -/
namespace HD
open PySem PySem.Spec L2
open PyProof.Rows hiding St
/-- the tables of the text's lambda makers are just those of tf -/
def lamsB (tf : List He.Defn) (K : PySem.W.Frag) : Bool := decide ((tabT K).map (·.1) = tf.map fun p => (He.cT K p).2)
def lamB (nm : Str) (K : PySem.W.Frag) : Bool := decide (((He.cT K (nm, none)).2, (nm ++ (".<locals>." : Str)) ++ ("<lambda>" : Str)) ∈ tabT K) && (tabT K).all fun p => decide (p.1 = (He.cT K (nm, none)).2 → p.2 = (nm ++ (".<locals>." : Str)) ++ ("<lambda>" : Str))
theorem lamT_of {K : PySem.W.Frag} {mg : Str → Option Value} {base : Heap} {nm : Str} (h : lamB nm K = true) (tb : LamX.TabB base mg (He.cT K (nm, none)).1 (He.cT K (nm, none)).2) : LamT K mg base nm (He.cT K (nm, none)).1 (He.cT K (nm, none)).2 := by
  unfold lamB at h
  obtain ⟨h1, h2⟩ := He.ba h
  exact ⟨tb, of_decide_eq_true h1, fun p hp => of_decide_eq_true (List.all_eq_true.mp h2 p hp)⟩
theorem tabs_of {K : PySem.W.Frag} {tf : List He.Defn} {H : Hp} (h : lamsB tf K = true) (hH : ∀ p ∈ tf.map (He.cT K), H p.2 = some (.tbl #[])) : LamX.Tabs (tabT K) H := by
  intro p hp
  have e : (tabT K).map (·.1) = tf.map fun p => (He.cT K p).2 := of_decide_eq_true h
  have hm : p.1 ∈ (tabT K).map (·.1) := List.mem_map.mpr ⟨p, hp, rfl⟩
  rw [e] at hm
  obtain ⟨q, hq, e2⟩ := List.mem_map.mp hm
  have := hH _ (List.mem_map.mpr ⟨q, hq, rfl⟩)
  rw [e2] at this
  exact LamX.TabS.nil this
/-- a def with its code object known -/
structure FnC (K : PySem.W.Frag) (mg : Str → Option Value) (x : Str) (st : Stmt) (ps : List Str) (c : Addr) : Prop where
  ex : ∃ (a : Addr) (fd : FuncData), FunD K x x (defArgs st) (defBody st) (defScope st) [] [] a fd ∧ mg x = some (.ref a) ∧ Binds K fd ps [] ∧ fd.code = .ref c
theorem FnC.of {K : PySem.W.Frag} {mg : Str → Option Value} {x : Str} {st : Stmt} {ps : List Str} (h : ∃ fd : FuncData, FunD K x x (defArgs st) (defBody st) (defScope st) [] [] (He.fAd K (x, none)) fd ∧ mg x = some (.ref (He.fAd K (x, none))) ∧ Binds K fd ps []) : FnC K mg x st ps (He.cT K (x, none)).1 := by
  obtain ⟨fd, F, hm, hb⟩ := h
  refine ⟨_, fd, F, hm, hb, ?_⟩
  obtain ⟨oc, od, dV, kV, doc, pm, an, cdv, ct, osl, rfl, lk, hcd, _, _⟩ := F.ex
  obtain ⟨c, rfl⟩ := He.codeIn_ref hcd
  show Value.ref c = .ref (He.codeOf K (x, none))
  rw [He.codeOf_eq lk rfl]
section
variable {P : Program} {w : World} {K : PySem.W.Frag} {mg : Str → Option Value} {base : Heap}
theorem cal_ofC {x : Str} {st : Stmt} {N ps : List Str} {k : Nat} {own : Bool} {den : SM} {c : Addr} (F : FnC K mg x st ps c) (S : FnScope N ps (defScope st))
    (hb : ∀ (f : Addr) (A : Around) (outer : List Env) (s : Shared) (H : Hp) (E : XK), Room k (A.deeper (envOfC x (defScope st) s.heap.objs.size f (.ref c))) → DSs (cxOf CXF P w K mg base N x (defScope st) f (.ref c) A outer s H E).nox W0 own (defBody st) den) :
    Cal P w K mg base x (k + 1) ps own (dDef own ps.length N.length den) := by
  obtain ⟨a, fd, F, g, b, hc⟩ := F
  refine ⟨a, fd, ?_, g, F.kp, b⟩
  obtain ⟨oc, od, dV, kV, doc, pm, an, cdv, ct, osl, rfl, lk, hcd, _, _⟩ := F.ex
  obtain rfl : cdv = .ref c := hc
  exact fn_of lk hcd S (fun vs H Q E h => sp_len h) fun A outer s H vs Q E hr h => ⟨_, PSs.nox (hb a A outer s H E hr), sp_start (fun _ _ _ z => z) (fun _ _ _ => Iff.rfl) h⟩
end
end HD
end
section
/-! The data layer: xs.pop(e). -/
namespace HD
open PySem PySem.Spec L2
open PyProof.Rows hiding St
section
variable {X : Cx} {W : WD} {own : Bool}
/-- target = own.pop(0) -/
def sPop0 (i : Nat) (tg : D → Dl → Option Dl) : SM := fun l rw => match l[i]? with
  | some (.own (.lst (d :: ds))) => (match tg d (l.set i (.own (.lst ds))) with
      | some l' => .ok (.next, l', rw)
      | none => .stuck)
  | _ => .stuck
theorem ds_pop0 {i : Nat} {tgt e : Expr} {pos : Pos} {js : List Nat} {tg : D → Dl → Option Dl} (hst : PS X (.Assign [tgt] e pos) (tAsg (tBM X.K "list" rPopAt (tVar i) (tCons (tC (.int 0)) tNil)) (tG X.K js tg))) : DS X W own (.Assign [tgt] e pos) (sPop0 i tg) := by
  refine ps_imp hst fun E σ H hq => ?_
  obtain ⟨C, l, rw, G, S, hp⟩ := hq
  unfold sPop0 at hp
  split at hp
  case h_2 => exact hp.elim
  case h_1 d ds e0 =>
    obtain ⟨p, e1, ow⟩ := S.ownAt e0
    obtain ⟨q, eq, hg, h0, hr, vs, b1, b2, b3⟩ := ow
    cases eq
    cases e3 : tg d (l.set i (.own (.lst ds))) with
    | none => rw [e3] at hp; exact hp.elim
    | some l' =>
      rw [e3] at hp
      obtain ⟨v, e4, rv⟩ := b3.get (i := 0) (show (d :: ds)[0]? = some d from rfl)
      have hl : vs.length = ds.length + 1 := by have := b3.length; simpa using this.symm
      refine ⟨.ref p, e1, .inl ⟨rfl, _, .of b1⟩, p, vs, 0, 0, v, rfl, rfl, b1, by decide, by decide, ?_, e4, ?_⟩
      · rw [hl]
        show (if (decide ((0 : Int) ≤ 0) && decide ((0 : Int) < ((ds.length + 1 : Nat) : Int))) = true then some _ else none) = some 0
        have : ((0 : Int) < ((ds.length + 1 : Nat) : Int)) := by omega
        simp [this]
      have S2 := S.mutAt (o' := .lst (vs.eraseIdx 0)) e0 e1 (d' := .lst ds) rfl ⟨_, rfl, by have := List.length_eraseIdx_le vs 0; omega, b3.eraseIdx 0⟩
      exact ⟨C, _, rw, G, d, l', S2, rv, e3, fun σ' S' _ => hp σ' _ G S'⟩
/-! ### x not in range(b) -/
def eNotRg1 (gx g2 : EM D) : EM D := fun l rw => (gx l rw).bind fun p => (g2 l p.2).bind fun t => match p.1, t.1 with
  | .int x, .int b => .ok (.bl (!decide (0 ≤ x ∧ x < b)), t.2)
  | _, _ => .stuck
theorem cr_range1 : CallR X (.type "range") (fun vs H Q => ∃ j, vs = [V.int j] ∧ ∀ p, H p = none → Q (.ref p) (upd H p (.rng 0 j))) := by
  intro pins s σ H vs us Q I r h
  obtain ⟨j, rfl, q⟩ := h
  obtain ⟨u1, rfl, rj⟩ := vals1 r
  obtain ⟨u, rfl⟩ := rj
  refine call_range_1 ⟨.ref s.heap.objs.size, upd H s.heap.objs.size (.rng 0 j), I.laid (t' := s.toks + 1 + 1) (fun b o e => Heap.get?_push_of_some _ e) (Nat.le_refl _) ?_, rfl, q _ (I.hok.fresh (Nat.le_refl _))⟩
  exact ⟨s.toks, u, s.toks + 1, Heap.get?_push_size _ rfl⟩
def tNotRg1 (K : PySem.W.Frag) (W : WD) (gx g2 : EM D) : TE := tOp (fun x y H Q => ∃ i a lo hi, x = V.int i ∧ y = V.ref a ∧ H a = some (.rng lo hi) ∧ Q (.bl (!decide (lo ≤ i ∧ i < hi))) H) (tD K W gx) (fun σ H Q => tCons (tD K W g2) tNil σ H fun vs H2 => (fun vs H Q => ∃ j, vs = [V.int j] ∧ ∀ p, H p = none → Q (.ref p) (upd H p (.rng 0 j))) vs H2 Q)
theorem redNotRg1 {gx g2 : EM D} : ∀ σ H Q, tD X.K W (eNotRg1 gx g2) σ H Q → tNotRg1 X.K W gx g2 σ H Q := by
  intro σ H Q hq
  obtain ⟨C, l, rw, G, S, hp⟩ := hq
  refine seqD (P := PEq X.K W C l σ H G Q) S hp (fun _ _ z => z) (fun z => z) fun d rw1 v H1 G1 S1 s1 r1 h1 => ?_
  refine seqD (P := PEq X.K W C l σ H G Q) S1 h1 (fun _ _ z => z) (fun z => z) fun d3 rw3 v3 H3 G3 S3 s3 r3 h3 => ?_
  dsimp only [PEq] at h3
  cases d with
  | int i =>
    cases d3 with
    | int hi =>
      unfold Rep at r1 r3
      subst r1 r3
      refine ⟨hi, rfl, fun p hp0 => ⟨i, p, 0, hi, rfl, rfl, upd_same, ?_⟩⟩
      exact h3 _ _ G3 (S3.newO hp0) ((s1.trans s3).trans (Gr.newO S3.sub hp0)) (by unfold Rep; rfl)
    | _ => exact h3.elim
  | _ => cases d3 <;> exact h3.elim
theorem de_notRg1 {x b : Expr} {p2 pos2 pos : Pos} {gx g2 : EM D} (hg2 : Gl X "range") (hm2 : X.mg "range" = none) (hx : DE X W x gx) (hb : DE X W b g2)
    (na2 : starEach [b] X.env = (false, eval b X.env) :: starEach [] X.env := by rfl)
    (hm : behindInMarks .NotIn (.Call (.Name "range" p2) [b] [] pos2) = false := by rfl) :
    DE X W (.Compare x [.NotIn] [.Call (.Name "range" p2) [b] [] pos2] pos) (eNotRg1 gx g2) := by
  exact pe_imp (pe_cmpR op_notIn_rng hx (pe_callTy cr_range1 hg2 hm2 (by decide +kernel) (pa_cons hb pa_nil na2) (he := na2)) hm) redNotRg1
theorem dt_notRg1 {x b : Expr} {p2 pos2 pos : Pos} {gx g2 : EM D} (hg2 : Gl X "range") (hm2 : X.mg "range" = none) (hx : DE X W x gx) (hb : DE X W b g2)
    (na2 : starEach [b] X.env = (false, eval b X.env) :: starEach [] X.env := by rfl)
    (hm : behindInMarks .NotIn (.Call (.Name "range" p2) [b] [] pos2) = false := by rfl) :
    DT X W (.Compare x [.NotIn] [.Call (.Name "range" p2) [b] [] pos2] pos) (toB (eNotRg1 gx g2)) := by
  exact pt_imp (pt_cmpR op_notIn_rng hx (pe_callTy cr_range1 hg2 hm2 (by decide +kernel) (pa_cons hb pa_nil na2) (he := na2)) hm) fun σ H Q hq => redNotRg1 _ _ _ (redB σ H Q hq)
theorem hu64 {A : Around} {k : Nat} (hr : Room k A) : A.units + 64 < cLine := by have := hr.un; omega
end
end HD
end
section
namespace HC
end HC
namespace HC
open PySem PySem.Spec L2 HD HC
open PyProof.Rows hiding St
def b_is_many : SM := (sRet (eChain fLe fLe (eK (.int 2)) (eV 0) (eK (.int 6))))
def d_is_many : FD := dDef false 1 1 b_is_many
def b_is_way : SM := (sSeq (sIf (tOr' (toB (eBin fNe (eArgs fLen (aCons (eV 2) aNil)) (eV 0))) (toB (eUn notNonD (eBin fIx (eV 2) (eV 1))))) (sRet (eK (.bl false))) sNext) (sSeq (sFor (aRng rng1 (aCons (eV 0) aNil)) (gN 3) (sSeq (sSet 4 (eBin fIx (eV 2) (eV 3))) (sIf (tAnd' (toB (eUn notNonD (eV 4))) (tOr' (tNot' (toB (eChain fLe fLt (eK (.int 0)) (eV 4) (eV 0)))) (toB (eBin fEq (eV 4) (eV 3))))) (sRet (eK (.bl false))) sNext))) (sRet (eK (.bl true)))))
def d_is_way : FD := dDef false 3 5 b_is_way
def b_need_web : SM := (sSeq (sAsg (eV 0) (gT 3 (gsCons (gN 1) (gsCons (gN 2) (gsCons (gN 3) gsNil))))) (sSeq (sIf (tNot' (toB (eCall d_is_many (aCons (eV 1) aNil)))) sStuck sNext) (sSeq (sIf (tOr' (toB (eBin fNe (eArgs fList (aCons (eV 2) aNil)) (eUn sortSet (eV 2)))) (toB (eBin fNe (eComp (aItems (eV 2)) (gN 5) (tNot' (toB (eChain fLe fLt (eK (.int 1)) (eV 5) (eV 1)))) (eV 5) [5]) (eLst aNil)))) sStuck sNext) (sSeq (sIf (toB (eBin fNe (eArgs fLen (aCons (eV 3) aNil)) (eBin fSub (eV 1) (eK (.int 1))))) sStuck sNext) (sFor (aRng rng2 (aCons (eK (.int 1)) (aCons (eV 1) aNil))) (gN 4) (sIf (tNot' (toB (eCall d_is_way (aCons (eV 1) (aCons (eV 4) (aCons (eBin fIx (eV 3) (eBin fSub (eV 4) (eK (.int 1)))) aNil)))))) sStuck sNext))))))
def d_need_web : FD := dDef false 1 6 b_need_web
def b_need_post : SM := (sIf (tOr' (tNot' (toB (eChain fLe fLt (eK (.int 1)) (eV 2) (eV 0)))) (tOr' (tNot' (toB (eChain fLe fLt (eK (.int 0)) (eV 1) (eV 0)))) (toB (eBin fEq (eV 1) (eV 2))))) sStuck sNext)
def d_need_post : FD := dDef false 3 3 b_need_post
def b_steps_to : SM := (sRet (eBin fMul (eK (.int 2)) (eV 0)))
def d_steps_to : FD := dDef false 1 1 b_steps_to
def b_posts_on : SM := (sSeq (sSet 3 (eK (.int 0))) (sSeq (sSetO 4 (eLst aNil)) (sSeq (sFor (aRng rng1 (aCons (eV 2) aNil)) (gN 5) (sSeq (sIf (tAnd' (toB (eUn notNonD (eV 3))) (toB (eBin fNe (eV 3) (eV 1)))) (sSet 3 (eBin fIxD (eV 0) (eV 3))) sNext) (sMut "list" 4 fAppend (aCons (eV 3) aNil)))) (sRetV 4))))
def d_posts_on : FD := dDef true 3 6 b_posts_on
def b_answer_of : SM := (sSeq (sIf (tOr' (toB (eUn isNonD (eV 2))) (toB (eBin (fIn false) (eV 2) (eV 0)))) (sRet (eK (.tup [.str "nothing"]))) sNext) (sRet (eTup (aCons (eIf (toB (eBin fEq (eV 2) (eV 1))) (eK (.str "there")) (eK (.str "gone"))) (aCons (eV 2) aNil)))))
def d_answer_of : FD := dDef false 3 3 b_answer_of
def b_answers_of : SM := (sRet (eComp (aItems (eCall d_posts_on (aCons (eV 1) (aCons (eV 2) (aCons (eV 3) aNil))))) (gN 4) cYes (eCall d_answer_of (aCons (eV 0) (aCons (eV 2) (aCons (eV 4) aNil)))) [4]))
def d_answers_of : FD := dDef true 4 5 b_answers_of
def b_with_end : SM := (sSeq (sSetO 2 (eK (.dic [] []))) (sSeq (sFor (aRng rng1 (aCons (eBin fSub (eArgs fLen (aCons (eV 0) aNil)) (eK (.int 1))) aNil)) (gN 3) (sDput 2 (eBin fIx (eV 0) (eV 3)) (eBin fIx (eV 0) (eBin fAdd (eV 3) (eK (.int 1)))))) (sSeq (sDput 2 (eBin fIx (eV 0) (eUn fNeg (eK (.int 1)))) (eV 1)) (sRetV 2))))
def d_with_end : FD := dDef true 2 4 b_with_end
def b_all_ways : SM := (sSeq (sSetO 2 (eLst aNil)) (sSeq (sSetO 3 (eLst (aCons (eTup (aCons (eK (.int 0)) aNil)) aNil))) (sSeq (sWhile (tBor 3 (toB (eBin fNe (eV 3) (eLst aNil)))) (sSeq (sPop0 3 (gN 4)) (sFor (aItems (eBin fAdd (eLst (aCons (eK .non) aNil)) (eLRg1 (eV 0)))) (gN 5) (sSeq (sIf (toB (eBin fEq (eV 5) (eBin fIx (eV 4) (eUn fNeg (eK (.int 1)))))) sCont sNext) (sIf (tOr' (toB (eUn isNonD (eV 5))) (tOr' (toB (eBin fEq (eV 5) (eV 1))) (toB (eBin (fIn false) (eV 5) (eV 4))))) (sMut "list" 2 fAppend (aCons (eCall d_with_end (aCons (eV 4) (aCons (eV 5) aNil))) aNil)) (sMut "list" 3 fAppend (aCons (eBin fAdd (eV 4) (eTup (aCons (eV 5) aNil))) aNil)))))) 100) (sRetV 2))))
def d_all_ways : FD := dDef true 2 6 b_all_ways
def b_all_silent : SM := (sSeq (sSet 2 (eLst (aCons (eTup aNil) aNil))) (sSeq (sFor (aRng rng2 (aCons (eK (.int 1)) (aCons (eV 0) aNil))) (gN 3) (sIf (toB (eBin (fIn true) (eV 3) (eV 1))) (sSet 2 (eBin fAdd (eV 2) (eComp (aItems (eV 2)) (gN 4) cYes (eBin fAdd (eV 4) (eTup (aCons (eV 3) aNil))) [4]))) sNext)) (sRet (eArgs (sortKeyD kf1 ok1) (aCons (eV 2) aNil)))))
def d_all_silent : FD := dDef false 2 5 b_all_silent
def b_seen_in : SM := (sRet (eComp (aItems (eV 0)) (gN 1) (toB (eBin fNe (eV 1) (eK (.tup [.str "nothing"])))) (eBin fIx (eV 1) (eK (.int 1))) [1]))
def d_seen_in : FD := dDef true 1 2 b_seen_in
def b_gives : SM := (sSeq (sSet 4 (eCall d_answers_of (aCons (eV 0) (aCons (eV 1) (aCons (eV 2) (aCons (eArgs fMaxK (aCons (eV 3) aNil)) aNil)))))) (sRet (eBin fEq (eComp (aKeys (eV 3)) (gN 5) (toB (eBin fNe (eBin fIx (eV 4) (eBin fSub (eV 5) (eK (.int 1)))) (eBin fIxD (eV 3) (eV 5)))) (eV 5) [5]) (eLst aNil))))
def d_gives : FD := dDef false 4 6 b_gives
def b_giving : SM := (sRet (eComp (aItems (eV 0)) (gN 4) (toB (eCall d_gives (aCons (eV 1) (aCons (eV 4) (aCons (eV 2) (aCons (eV 3) aNil)))))) (eV 4) [4]))
def d_giving : FD := dDef true 4 5 b_giving
def b_dues_of : SM := (sSeq (sSetO 1 (eK (.dic [] []))) (sSeq (sFor (aRng rng2 (aCons (eK (.int 1)) (aCons (eBin fIx (eV 0) (eK (.int 0))) aNil))) (gN 2) (sSeq (sSet 3 (eCall d_answers_of (aCons (eBin fIx (eV 0) (eK (.int 1))) (aCons (eBin fIx (eBin fIx (eV 0) (eK (.int 2))) (eBin fSub (eV 2) (eK (.int 1)))) (aCons (eV 2) (aCons (eCall d_steps_to (aCons (eBin fIx (eV 0) (eK (.int 0))) aNil)) aNil)))))) (sDput 1 (eV 2) (eArgs fDictP (aCons (eComp (aRng rng1 (aCons (eArgs fLen (aCons (eV 3) aNil)) aNil)) (gN 4) cYes (eTup (aCons (eBin fAdd (eV 4) (eK (.int 1))) (aCons (eBin fIx (eV 3) (eV 4)) aNil))) [4]) aNil))))) (sRetV 1)))
def d_dues_of : FD := dDef true 1 5 b_dues_of
def b_all_worlds : SM := (sSeq (sSet 1 (eCall d_dues_of (aCons (eV 0) aNil))) (sSeq (sSetO 2 (eLst aNil)) (sSeq (sFor (aKeys (eV 1)) (gN 3) (sMut "list" 2 fExtend (aCons (eCall d_seen_in (aCons (eVals (eBin fIxD (eV 1) (eV 3))) aNil)) aNil))) (sSeq (sSetO 4 (eLst aNil)) (sSeq (sSet 5 (eArgs fDictP (aCons (eComp (aKeys (eV 1)) (gN 3) cYes (eTup (aCons (eV 3) (aCons (eCall d_all_ways (aCons (eBin fIx (eV 0) (eK (.int 0))) (aCons (eV 3) aNil))) aNil))) [3]) aNil))) (sSeq (sFrz 2) (sSeq (sFor (aItems (eCall d_all_silent (aCons (eBin fIx (eV 0) (eK (.int 0))) (aCons (eV 2) aNil)))) (gN 6) (sSeq (sSet 7 (eComp (aRng rng2 (aCons (eK (.int 1)) (aCons (eBin fIx (eV 0) (eK (.int 0))) aNil))) (gN 3) cYes (eCall d_giving (aCons (eBin fIxD (eV 5) (eV 3)) (aCons (eV 6) (aCons (eV 3) (aCons (eBin fIxD (eV 1) (eV 3)) aNil))))) [3])) (sIf (toB (eBin fNotInN (eLst aNil) (eV 7))) (sMut "list" 4 fAppend (aCons (eTup (aCons (eV 6) (aCons (eV 7) aNil))) aNil)) sNext))) (sRetV 4))))))))
def d_all_worlds : FD := dDef true 1 8 b_all_worlds
def b_with_way : SM := (sSeq (sSetO 4 (eComp (aRng rng1 (aCons (eArgs fLen (aCons (eV 1) aNil)) aNil)) (gN 5) cYes (eGet2 (eV 0) (eV 5) (eBin fIx (eV 1) (eV 5))) [5])) (sSeq (sIf (toB (eUn notNonD (eV 2))) (sStore 4 (eV 2) (eV 3)) sNext) (sRet (eTupO 4))))
def d_with_way : FD := dDef false 4 6 b_with_way
def b_other_next : SM := (sRet (eIf (toB (eUn notNonD (eV 2))) (eK .non) (eBin fIx (eComp (aRng rng1 (aCons (eV 0) aNil)) (gN 3) (toB (eBin fNe (eV 3) (eV 1))) (eV 3) [3]) (eK (.int 0)))))
def d_other_next : FD := dDef false 3 4 b_other_next
def b_twin_in : SM := (sSeq (sAsg (eV 1) (gT 2 (gsCons (gN 4) (gsCons (gN 5) gsNil)))) (sSeq (sSet 6 (eBin fIx (eBin fIx (eBin fIx (eV 0) (eK (.int 2))) (eBin fSub (eV 3) (eK (.int 1)))) (eV 2))) (sSeq (sFor (aItems (eBin fIx (eV 5) (eBin fSub (eV 3) (eK (.int 1))))) (gN 7) (sIf (tOr' (toB (eBin fNe (eGet2 (eV 7) (eV 2) (eV 6)) (eV 6))) (toB (eBin (fDin true) (eV 2) (eV 7)))) (sSeq (sSetO 8 (eComp (aRng rng1 (aCons (eArgs fLen (aCons (eV 5) aNil)) aNil)) (gN 10) cYes (eCall d_with_way (aCons (eBin fIx (eBin fIx (eV 5) (eV 10)) (eK (.int 0))) (aCons (eBin fIx (eBin fIx (eV 0) (eK (.int 2))) (eV 10)) (aCons (eK .non) (aCons (eK .non) aNil))))) [10])) (sSeq (sSet 9 (eGet2 (eV 7) (eV 2) (eCall d_other_next (aCons (eBin fIx (eV 0) (eK (.int 0))) (aCons (eV 2) (aCons (eV 6) aNil)))))) (sSeq (sStore 8 (eBin fSub (eV 3) (eK (.int 1))) (eCall d_with_way (aCons (eV 7) (aCons (eBin fIx (eBin fIx (eV 0) (eK (.int 2))) (eBin fSub (eV 3) (eK (.int 1)))) (aCons (eV 2) (aCons (eV 9) aNil)))))) (sRet (eTup (aCons (eBin fIx (eV 0) (eK (.int 0))) (aCons (eV 4) (aCons (eTupO 8) aNil)))))))) sNext)) (sRet (eK .non)))))
def d_twin_in : FD := dDef false 4 11 b_twin_in
def b_twin_of : SM := (sSeq (sFor (aItems (eV 1)) (gN 4) (sSeq (sSet 5 (eCall d_twin_in (aCons (eV 0) (aCons (eV 4) (aCons (eV 2) (aCons (eV 3) aNil)))))) (sIf (toB (eUn notNonD (eV 5))) (sRet (eV 5)) sNext))) (sRet (eK .non)))
def d_twin_of : FD := dDef false 4 6 b_twin_of
def b_twin : SM := (sSeq (sExpr (eCall d_need_web (aCons (eV 0) aNil))) (sSeq (sExpr (eCall d_need_post (aCons (eBin fIx (eV 0) (eK (.int 0))) (aCons (eV 1) (aCons (eV 2) aNil))))) (sRet (eCall d_twin_of (aCons (eV 0) (aCons (eCall d_all_worlds (aCons (eV 0) aNil)) (aCons (eV 1) (aCons (eV 2) aNil))))))))
def d_twin : FD := dDef false 3 3 b_twin
def b_known : SM := (sSeq (sExpr (eCall d_need_web (aCons (eV 0) aNil))) (sSeq (sSet 1 (eCall d_all_worlds (aCons (eV 0) aNil))) (sSeq (sSetO 2 (eLst aNil)) (sSeq (sFor (aRng rng1 (aCons (eBin fIx (eV 0) (eK (.int 0))) aNil)) (gN 3) (sFor (aRng rng2 (aCons (eK (.int 1)) (aCons (eBin fIx (eV 0) (eK (.int 0))) aNil))) (gN 4) (sIf (tAnd' (toB (eBin fNe (eV 3) (eV 4))) (toB (eUn isNonD (eCall d_twin_of (aCons (eV 0) (aCons (eV 1) (aCons (eV 3) (aCons (eV 4) aNil)))))))) (sMut "list" 2 fAppend (aCons (eTup (aCons (eV 3) (aCons (eV 4) (aCons (eBin fIx (eBin fIx (eBin fIx (eV 0) (eK (.int 2))) (eBin fSub (eV 4) (eK (.int 1)))) (eV 3)) aNil)))) aNil)) sNext))) (sRetV 2)))))
def d_known : FD := dDef true 1 5 b_known
def b__law_taken : SM := (sSeq (sRow 1 0 (eBin fAdd (eRow 1 0) (eK (.int 1)))) (sSeq (sIf (toB (eBin fGt (eRow 1 0) (eArgs fLen (aCons (eRow 0 0) aNil)))) (sSeq (sRow 2 0 (eBin fMod (eBin fAdd (eBin fMul (eRow 2 0) (eK (.int 48271))) (eK (.int 11))) (eK (.int 2147483647)))) (sRet (eBin fMod (eBin fFdiv (eRow 2 0) (eK (.int 7))) (eV 1)))) sNext) (sSeq (sSet 2 (eBin fIx (eRow 0 0) (eBin fSub (eRow 1 0) (eK (.int 1))))) (sSeq (sRow 2 0 (eBin fMod (eBin fAdd (eBin fAdd (eBin fMul (eRow 2 0) (eK (.int 48271))) (eV 2)) (eK (.int 11))) (eK (.int 2147483647)))) (sRet (eBin fMod (eV 2) (eV 1)))))))
def d__law_taken : FD := dDef false 2 3 b__law_taken
def b__law_alike (self : FD) : SM := (sSeq (sIf (tOr' (toB (eArgs fIsi (aCons (eV 1) (aCons (eK (.raw (.ty "tuple"))) aNil)))) (toB (eArgs fIsi (aCons (eV 1) (aCons (eK (.raw (.ty "list"))) aNil))))) (sSeq (sIf (tOr' (toB (eBin fNe (eArgs fIsi (aCons (eV 0) (aCons (eK (.raw (.ty "tuple"))) aNil))) (eArgs fIsi (aCons (eV 1) (aCons (eK (.raw (.ty "tuple"))) aNil))))) (tNot' (toB (eUn (fIsi2 "tuple" "list") (eV 0))))) (sRet (eK (.bl false))) sNext) (sSeq (sIf (toB (eBin fNe (eArgs fLen (aCons (eV 0) aNil)) (eArgs fLen (aCons (eV 1) aNil)))) (sRet (eK (.bl false))) sNext) (sRet (eBin fEq (eComp (aRng rng1 (aCons (eArgs fLen (aCons (eV 1) aNil)) aNil)) (gN 2) (tNot' (toB (eCall self (aCons (eBin fIx (eV 0) (eV 2)) (aCons (eBin fIx (eV 1) (eV 2)) aNil))))) (eV 2) [2]) (eLst aNil))))) sNext) (sSeq (sIf (tOr' (toB (eUn isNonD (eV 1))) (toB (eUn isNonD (eV 0)))) (sRet (vAnd (eUn isNonD (eV 1)) (eUn isNonD (eV 0)))) sNext) (sSeq (sIf (tOr' (toB (eArgs fIsi (aCons (eV 1) (aCons (eK (.raw (.ty "bool"))) aNil)))) (toB (eArgs fIsi (aCons (eV 0) (aCons (eK (.raw (.ty "bool"))) aNil))))) (sRet (vAnd (eArgs fIsi (aCons (eV 1) (aCons (eK (.raw (.ty "bool"))) aNil))) (vAnd (eArgs fIsi (aCons (eV 0) (aCons (eK (.raw (.ty "bool"))) aNil))) (eBin fEq (eV 0) (eV 1))))) sNext) (sSeq (sIf (toB (eArgs fIsi (aCons (eV 1) (aCons (eK (.raw (.ty "str"))) aNil)))) (sRet (vAnd (eArgs fIsi (aCons (eV 0) (aCons (eK (.raw (.ty "str"))) aNil))) (eBin fEq (eV 0) (eV 1)))) sNext) (sRet (vAnd (eArgs fIsi (aCons (eV 0) (aCons (eK (.raw (.ty "int"))) aNil))) (eBin fEq (eV 0) (eV 1))))))))
def r__law_alike : Nat → FD
  | 0 => fun _ _ => .stuck
  | n + 1 => dDef false 2 3 (b__law_alike (r__law_alike n))
def d__law_alike : FD := r__law_alike 6
def b__law_way : SM := (sSeq (sSetO 4 (eLst aNil)) (sSeq (sFor (aRng rng1 (aCons (eV 1) aNil)) (gN 5) (sSeq (sSet 7 (eComp (aRng rng1 (aCons (eV 1) aNil)) (gN 6) (toB (eBin fNe (eV 6) (eV 5))) (eV 6) [6])) (sSeq (sSet 6 (eBin fIx (eV 7) (eCall d__law_taken (aCons (eV 0) (aCons (eArgs fLen (aCons (eV 7) aNil)) aNil))))) (sSeq (sIf (tOr' (tAnd' (toB (eBin fEq (eV 3) (eK (.int 1)))) (toB (eBin fEq (eCall d__law_taken (aCons (eV 0) (aCons (eK (.int 3)) aNil))) (eK (.int 0))))) (tAnd' (toB (eBin fEq (eV 3) (eK (.int 0)))) (toB (eBin fEq (eCall d__law_taken (aCons (eV 0) (aCons (eK (.int 8)) aNil))) (eK (.int 7)))))) (sSet 6 (eK .non)) sNext) (sSeq (sIf (tAnd' (toB (eBin fEq (eV 3) (eK (.int 2)))) (toB (eBin fGt (eCall d__law_taken (aCons (eV 0) (aCons (eK (.int 3)) aNil))) (eK (.int 0))))) (sSet 6 (eBin fMod (eBin fAdd (eV 5) (eK (.int 1))) (eV 1))) sNext) (sMut "list" 4 fAppend (aCons (eIf (toB (eBin fEq (eV 5) (eV 2))) (eK .non) (eV 6)) aNil))))))) (sRet (eTupO 4))))
def d__law_way : FD := dDef false 4 8 b__law_way
def b__law_web : SM := (sSeq (sSet 3 (eBin fAdd (eV 1) (eCall d__law_taken (aCons (eV 0) (aCons (eBin fAdd (eBin fSub (eV 2) (eV 1)) (eK (.int 1))) aNil))))) (sSeq (sSet 4 (eBin fIx (eLst (aCons (eK (.int 2)) (aCons (eK (.int 4)) (aCons (eK (.int 99)) aNil)))) (eCall d__law_taken (aCons (eV 0) (aCons (eK (.int 3)) aNil))))) (sSeq (sSet 5 (eComp (aRng rng2 (aCons (eK (.int 1)) (aCons (eV 3) aNil))) (gN 6) (toB (eBin fEq (eCall d__law_taken (aCons (eV 0) (aCons (eV 4) aNil))) (eK (.int 1)))) (eV 6) [6])) (sRet (eTup (aCons (eV 3) (aCons (eArgs fTuple (aCons (eV 5) aNil)) (aCons (eArgs fTuple (aCons (eComp (aRng rng2 (aCons (eK (.int 1)) (aCons (eV 3) aNil))) (gN 7) cYes (eCall d__law_way (aCons (eV 0) (aCons (eV 3) (aCons (eV 7) (aCons (eCall d__law_taken (aCons (eV 0) (aCons (eK (.int 3)) aNil))) aNil))))) [7]) aNil)) aNil))))))))
def d__law_web : FD := dDef false 3 8 b__law_web
def b__law_asked : SM := (sSeq (sAsg (eV 0) (gT 3 (gsCons (gN 3) (gsCons (gN 4) (gsCons (gN 5) gsNil))))) (sSeq (sSet 6 (eK (.int 0))) (sSeq (sWhile (tAnd' (toB (eBin fGt (eV 2) (eK (.int 0)))) (tAnd' (toB (eUn notNonD (eV 6))) (toB (eBin fNe (eV 6) (eV 1))))) (sSeq (sSet 6 (eBin fIx (eBin fIx (eV 5) (eBin fSub (eV 1) (eK (.int 1)))) (eV 6))) (sSet 2 (eBin fSub (eV 2) (eK (.int 1))))) 1000) (sSeq (sIf (tOr' (toB (eUn isNonD (eV 6))) (toB (eBin (fIn false) (eV 6) (eV 4)))) (sRet (eTup (aCons (eK (.str "nothing")) aNil))) sNext) (sRet (eIf (toB (eBin fEq (eV 6) (eV 1))) (eTup (aCons (eK (.str "there")) (aCons (eV 1) aNil))) (eTup (aCons (eK (.str "gone")) (aCons (eV 6) aNil)))))))))
def d__law_asked : FD := dDef false 3 7 b__law_asked
def b__law_answers : SM := (sRet (eComp (aRng rng2 (aCons (eK (.int 1)) (aCons (eBin fAdd (eV 2) (eK (.int 1))) aNil))) (gN 3) cYes (eCall d__law_asked (aCons (eV 0) (aCons (eV 1) (aCons (eV 3) aNil)))) [3]))
def d__law_answers : FD := dDef true 3 4 b__law_answers
def b__law_all_ways : SM := (sSeq (sSet 2 (eLst (aCons (eTup aNil) aNil))) (sSeq (sFor (aRng rng1 (aCons (eV 0) aNil)) (gN 3) (sSeq (sSet 4 (eBin fAdd (eLst (aCons (eK .non) aNil)) (eComp (aRng rng1 (aCons (eV 0) aNil)) (gN 7) (toB (eBin fNe (eV 7) (eV 3))) (eV 7) [7]))) (sSeq (sSetO 5 (eLst aNil)) (sSeq (sFor (aItems (eV 2)) (gN 6) (sMut "list" 5 fExtend (aCons (eComp (aItems (eIf (toB (eBin fEq (eV 3) (eV 1))) (eLst (aCons (eK .non) aNil)) (eV 4))) (gN 7) cYes (eBin fAdd (eV 6) (eTup (aCons (eV 7) aNil))) [7]) aNil))) (sSeq (sFrz 5) (sSet 2 (eV 5))))))) (sRet (eV 2))))
def d__law_all_ways : FD := dDef false 2 8 b__law_all_ways
def b__law_all_walks : SM := (sSeq (sSetO 2 (eLst aNil)) (sSeq (sSetO 3 (eLst (aCons (eTup (aCons (eTup (aCons (eK (.int 0)) aNil)) (aCons (eArgs fTuple (aCons (eBin fAdd (eBin fAdd (eBin fMul (eLst (aCons (eK (.str "?")) aNil)) (eV 1)) (eLst (aCons (eK .non) aNil))) (eBin fMul (eLst (aCons (eK (.str "?")) aNil)) (eBin fSub (eBin fSub (eV 0) (eV 1)) (eK (.int 1))))) aNil)) aNil))) aNil))) (sSeq (sWhile (tBor 3 (toB (eBin fNe (eV 3) (eLst aNil)))) (sSeq (sPopG 3 (gT 2 (gsCons (gN 4) (gsCons (gN 5) gsNil)))) (sSeq (sSet 6 (eBin fIx (eV 4) (eUn fNeg (eK (.int 1))))) (sFor (aItems (eBin fAdd (eLst (aCons (eK .non) aNil)) (eComp (aRng rng1 (aCons (eV 0) aNil)) (gN 9) (toB (eBin fNe (eV 9) (eV 6))) (eV 9) [9]))) (gN 7) (sSeq (sSet 8 (eBin fAdd (eBin fAdd (eSl (eV 5) pNone (pSome (eV 6))) (eTup (aCons (eV 7) aNil))) (eSl (eV 5) (pSome (eBin fAdd (eV 6) (eK (.int 1)))) pNone))) (sIf (tOr' (toB (eUn isNonD (eV 7))) (tOr' (toB (eBin fEq (eV 7) (eV 1))) (toB (eBin (fIn false) (eV 7) (eV 4))))) (sMut "list" 2 fAppend (aCons (eV 8) aNil)) (sMut "list" 3 fAppend (aCons (eTup (aCons (eBin fAdd (eV 4) (eTup (aCons (eV 7) aNil))) (aCons (eV 8) aNil))) aNil))))))) 100) (sRetV 2))))
def d__law_all_walks : FD := dDef true 2 10 b__law_all_walks
def b__law_some_ways : SM := (sRet (eIf (toB (eBin fLt (eV 0) (eK (.int 5)))) (eCall d__law_all_ways (aCons (eV 0) (aCons (eV 1) aNil))) (eCall d__law_all_walks (aCons (eV 0) (aCons (eV 1) aNil)))))
def d__law_some_ways : FD := dDef false 2 2 b__law_some_ways
def b__law_all_silent : SM := (sSeq (sSet 1 (eLst (aCons (eTup aNil) aNil))) (sSeq (sFor (aRng rng2 (aCons (eK (.int 1)) (aCons (eV 0) aNil))) (gN 2) (sSet 1 (eBin fAdd (eV 1) (eComp (aItems (eV 1)) (gN 3) cYes (eBin fAdd (eV 3) (eTup (aCons (eV 2) aNil))) [3])))) (sRet (eV 1))))
def d__law_all_silent : FD := dDef false 1 4 b__law_all_silent
def b__law_told : SM := (sSeq (sSet 4 (eArgs fLen (aCons (eV 1) aNil))) (sSeq (sSet 5 (eTup (aCons (eV 4) (aCons (eV 0) (aCons (eArgs fTuple (aCons (eBin fMul (eLst (aCons (eV 1) aNil)) (eBin fSub (eV 4) (eK (.int 1)))) aNil)) aNil))))) (sRet (eCall d__law_asked (aCons (eV 5) (aCons (eV 2) (aCons (eV 3) aNil)))))))
def d__law_told : FD := dDef false 4 6 b__law_told
def b__law_worlds : SM := (sSeq (sSet 1 (eBin fIx (eV 0) (eK (.int 0)))) (sSeq (sSetO 2 (eLst aNil)) (sSeq (sFor (aItems (eCall d__law_all_silent (aCons (eV 1) aNil))) (gN 3) (sSeq (sSetO 4 (eLst aNil)) (sSeq (sFor (aRng rng2 (aCons (eK (.int 1)) (aCons (eV 1) aNil))) (gN 5) (sSeq (sSet 6 (eCall d__law_answers (aCons (eV 0) (aCons (eV 5) (aCons (eBin fMul (eK (.int 2)) (eV 1)) aNil))))) (sSeq (sSetO 7 (eLst aNil)) (sSeq (sFor (aItems (eCall d__law_some_ways (aCons (eV 1) (aCons (eV 5) aNil)))) (gN 8) (sIf (toB (eBin fEq (eCall d__law_told (aCons (eV 3) (aCons (eV 8) (aCons (eV 5) (aCons (eK (.int 1)) aNil))))) (eBin fIx (eV 6) (eK (.int 0))))) (sIf (toB (eBin fEq (eComp (aRng rng1 (aCons (eBin fMul (eK (.int 2)) (eV 1)) aNil)) (gN 9) cYes (eCall d__law_told (aCons (eV 3) (aCons (eV 8) (aCons (eV 5) (aCons (eBin fAdd (eV 9) (eK (.int 1))) aNil))))) [9]) (eV 6))) (sMut "list" 7 fAppend (aCons (eV 8) aNil)) sNext) sNext)) (sSeq (sFrz 7) (sMut "list" 4 fAppend (aCons (eV 7) aNil))))))) (sIf (tBor 4 (toB (eBin fNotInN (eLst aNil) (eV 4)))) (sSeq (sFrz 4) (sMut "list" 2 fAppend (aCons (eTup (aCons (eV 3) (aCons (eV 4) aNil))) aNil))) sNext)))) (sRetV 2))))
def d__law_worlds : FD := dDef true 1 10 b__law_worlds
def b__law_is_web : SM := (sSeq (sIf (tOr' (tNot' (toB (eArgs fIsi (aCons (eV 0) (aCons (eK (.raw (.ty "tuple"))) aNil))))) (tOr' (toB (eBin fNe (eArgs fLen (aCons (eV 0) aNil)) (eK (.int 3)))) (tOr' (tNot' (toB (eArgs fIsi (aCons (eBin fIx (eV 0) (eK (.int 1))) (aCons (eK (.raw (.ty "tuple"))) aNil))))) (tNot' (toB (eArgs fIsi (aCons (eBin fIx (eV 0) (eK (.int 2))) (aCons (eK (.raw (.ty "tuple"))) aNil)))))))) (sRet (eK (.bl false))) sNext) (sSeq (sAsg (eV 0) (gT 3 (gsCons (gN 1) (gsCons (gN 2) (gsCons (gN 3) gsNil))))) (sSeq (sIf (tOr' (toB (eBin (fIn true) (eV 1) (eTup (aCons (eK (.int 2)) (aCons (eK (.int 3)) (aCons (eK (.int 4)) (aCons (eK (.int 5)) (aCons (eK (.int 6)) aNil)))))))) (toB (eBin fNe (eArgs fLen (aCons (eV 3) aNil)) (eBin fSub (eV 1) (eK (.int 1)))))) (sRet (eK (.bl false))) sNext) (sSeq (sIf (tOr' (toB (eBin fNe (eComp (aItems (eV 2)) (gN 4) (toB (eNotRg (eV 4) (eK (.int 1)) (eV 1))) (eV 4) [4]) (eLst aNil))) (toB (eBin fNe (eArgs fList (aCons (eV 2) aNil)) (eUn sortSet (eV 2))))) (sRet (eK (.bl false))) sNext) (sSeq (sFor (aRng rng2 (aCons (eK (.int 1)) (aCons (eV 1) aNil))) (gN 5) (sSeq (sSet 6 (eBin fIx (eV 3) (eBin fSub (eV 5) (eK (.int 1))))) (sSeq (sIf (tOr' (tNot' (toB (eArgs fIsi (aCons (eV 6) (aCons (eK (.raw (.ty "tuple"))) aNil))))) (tOr' (toB (eBin fNe (eArgs fLen (aCons (eV 6) aNil)) (eV 1))) (toB (eUn notNonD (eBin fIx (eV 6) (eV 5)))))) (sRet (eK (.bl false))) sNext) (sFor (aRng rng1 (aCons (eV 1) aNil)) (gN 4) (sIf (tAnd' (toB (eUn notNonD (eBin fIx (eV 6) (eV 4)))) (tOr' (toB (eNotRg1 (eBin fIx (eV 6) (eV 4)) (eV 1))) (toB (eBin fEq (eBin fIx (eV 6) (eV 4)) (eV 4))))) (sRet (eK (.bl false))) sNext))))) (sRet (eK (.bl true))))))))
def d__law_is_web : FD := dDef false 1 7 b__law_is_web
def b__law_known : SM := (sSeq (sSetO 2 (eLst aNil)) (sSeq (sFor (aRng rng1 (aCons (eBin fIx (eV 0) (eK (.int 0))) aNil)) (gN 3) (sFor (aRng rng2 (aCons (eK (.int 1)) (aCons (eBin fIx (eV 0) (eK (.int 0))) aNil))) (gN 4) (sSeq (sSetO 5 (eLst aNil)) (sSeq (sFor (aItems (eV 1)) (gT 2 (gsCons (gN 6) (gsCons (gN 7) gsNil))) (sMut "list" 5 fExtend (aCons (eComp (aItems (eBin fIx (eV 7) (eBin fSub (eV 4) (eK (.int 1))))) (gN 8) cYes (eBin fIx (eV 8) (eV 3)) [8]) aNil))) (sIf (tAnd' (toB (eBin fNe (eV 3) (eV 4))) (tAnd' (tBor 5 (toB (eBin (fIn true) (eK (.str "?")) (eV 5)))) (tBor 5 (toB (eBin fEq (eComp (aItems (eV 5)) (gN 9) (toB (eBin fNe (eV 9) (eBin fIx (eV 5) (eK (.int 0))))) (eV 9) [9]) (eLst aNil)))))) (sMut "list" 2 fAppend (aCons (eTup (aCons (eV 3) (aCons (eV 4) (aCons (eBor 5 (eBin fIx (eV 5) (eK (.int 0)))) aNil)))) aNil)) sNext))))) (sRetV 2)))
def d__law_known : FD := dDef true 2 10 b__law_known
def b__law_is_twin : SM := (sSeq (sIf (tOr' (tNot' (toB (eCall d__law_is_web (aCons (eV 1) aNil)))) (tOr' (toB (eBin fNe (eBin fIx (eV 1) (eK (.int 0))) (eBin fIx (eV 0) (eK (.int 0))))) (toB (eBin fEq (eBin fIx (eBin fIx (eBin fIx (eV 1) (eK (.int 2))) (eBin fSub (eV 3) (eK (.int 1)))) (eV 2)) (eBin fIx (eBin fIx (eBin fIx (eV 0) (eK (.int 2))) (eBin fSub (eV 3) (eK (.int 1)))) (eV 2)))))) (sRet (eK (.bl false))) sNext) (sSeq (sSet 4 (eBin fMul (eK (.int 2)) (eBin fIx (eV 0) (eK (.int 0))))) (sRet (eBin fEq (eComp (aRng rng2 (aCons (eK (.int 1)) (aCons (eBin fIx (eV 0) (eK (.int 0))) aNil))) (gN 5) (toB (eBin fNe (eCall d__law_answers (aCons (eV 0) (aCons (eV 5) (aCons (eV 4) aNil)))) (eCall d__law_answers (aCons (eV 1) (aCons (eV 5) (aCons (eV 4) aNil)))))) (eV 5) [5]) (eLst aNil)))))
def d__law_is_twin : FD := dDef false 4 6 b__law_is_twin
end HC
namespace K07
open PySem PySem.Spec L2 HD HC
open PyProof.Rows hiding St
def b_law : SM := (sSeq (sSet 2 (eCall d__law_web (aCons (eV 1) (aCons (eK (.int 2)) (aCons (eBin fIx (eLst (aCons (eK (.int 4)) (aCons (eK (.int 4)) (aCons (eK (.int 4)) (aCons (eK (.int 6)) aNil))))) (eCall d__law_taken (aCons (eV 1) (aCons (eK (.int 4)) aNil)))) aNil))))) (sSeq (sSet 3 (eCall d__law_known (aCons (eV 2) (aCons (eCall d__law_worlds (aCons (eV 2) aNil)) aNil)))) (sSeq (sFor (aRng rng1 (aCons (eK (.int 2)) aNil)) (gN 4) (sSeq (sSetO 5 (eCall d_known (aCons (eV 2) aNil))) (sSeq (sIf (tNot' (tBor 5 (toB (eCall d__law_alike (aCons (eV 5) (aCons (eV 3) aNil)))))) (sRet (eK (.bl false))) sNext) (sMut "list" 5 fAppend (aCons (eTup (aCons (eK (.int 0)) (aCons (eK (.int 1)) (aCons (eK .non) aNil)))) aNil))))) (sSeq (sFor (aRng rng1 (aCons (eBin fIx (eV 2) (eK (.int 0))) aNil)) (gN 6) (sFor (aRng rng2 (aCons (eK (.int 1)) (aCons (eBin fIx (eV 2) (eK (.int 0))) aNil))) (gN 7) (sIf (tAnd' (toB (eBin fNe (eV 6) (eV 7))) (tOr' (toB (eBin fLt (eBin fIx (eV 2) (eK (.int 0))) (eK (.int 5)))) (toB (eBin fEq (eCall d__law_taken (aCons (eV 1) (aCons (eK (.int 6)) aNil))) (eK (.int 5)))))) (sSeq (sSet 8 (eCall d_twin (aCons (eV 2) (aCons (eV 6) (aCons (eV 7) aNil))))) (sSeq (sIf (toB (eBin fNe (eUn isNonD (eV 8)) (eBin (fIn false) (eTup (aCons (eV 6) (aCons (eV 7) (aCons (eBin fIx (eBin fIx (eBin fIx (eV 2) (eK (.int 2))) (eBin fSub (eV 7) (eK (.int 1)))) (eV 6)) aNil)))) (eV 3)))) (sRet (eK (.bl false))) sNext) (sIf (tAnd' (toB (eUn notNonD (eV 8))) (tNot' (toB (eCall d__law_is_twin (aCons (eV 2) (aCons (eV 8) (aCons (eV 6) (aCons (eV 7) aNil)))))))) (sRet (eK (.bl false))) sNext))) sNext))) (sRet (eK (.bl true)))))))
end K07
end
section
/-! The data layer: sorted of whole numbers, [x] * n as a new list, own.append(own.pop(e)). -/
namespace HD
open PySem PySem.Spec L2
open PyProof.Rows hiding St
theorem le_uniq : ∀ {a b : List Int}, a.Pairwise (· ≤ ·) → b.Pairwise (· ≤ ·) → a.Perm b → a = b
  | [], b, _, _, h => (List.nil_perm.mp h).symm
  | x :: a, b, ha, hb, h => by
    cases b with
    | nil => exact absurd h.symm (by simp)
    | cons y b =>
      rw [List.pairwise_cons] at ha hb
      have e : x = y := by
        have h1 : x ∈ y :: b := h.mem_iff.mp List.mem_cons_self
        have h2 : y ∈ x :: a := h.mem_iff.mpr List.mem_cons_self
        rcases List.mem_cons.mp h1 with e | h1
        · exact e
        · rcases List.mem_cons.mp h2 with e | h2
          · exact e.symm
          · have := hb.1 x h1
            have := ha.1 y h2
            omega
      subst e
      rw [le_uniq ha.2 hb.2 (List.Perm.cons_inv h)]
def sortI (ns : List Int) : List Int := ns.mergeSort fun a b => decide (a ≤ b)
theorem sortI_perm (ns : List Int) : (sortI ns).Perm ns := List.mergeSort_perm _ _
theorem sortI_pw (ns : List Int) : (sortI ns).Pairwise (· ≤ ·) := by
  have := List.pairwise_mergeSort (le := fun a b : Int => decide (a ≤ b)) (fun a b c h1 h2 => by simp only [decide_eq_true_eq] at *; omega) (fun a b => by simp only [Bool.or_eq_true, decide_eq_true_eq]; omega) ns
  exact this.imp fun h => of_decide_eq_true h
def fSortI : List D → Option D
  | [.lst ds] => (toInts ds).map fun ns => .lst ((sortI ns).map .int)
  | _ => none
theorem a_sortI {K : PySem.W.Frag} : ArN K (rSortedI K) fSortI := by
  intro o G H ds vs d Q s r e
  unfold fSortI at e
  split at e
  case h_2 => cases e
  case h_1 xs =>
    obtain ⟨ns, e1, rfl⟩ := Option.map_eq_some_iff.mp e
    refine ⟨rfl, fun q => ?_⟩
    obtain ⟨v, rfl, r1⟩ := reps1 r
    unfold Rep at r1
    obtain ⟨a, us, rfl, a1, a2, a3⟩ := r1
    have ex := toInts_eq e1
    subst ex
    have := Reps.ints a3
    subst this
    refine ⟨a, ns, rfl, .of (s _ _ a1), fun ns' p hp hs h0 => ?_⟩
    have : ns' = sortI ns := le_uniq hs (sortI_pw ns) (hp.trans (sortI_perm ns).symm)
    subst this
    refine q p H _ (Same.refl _) h0 ⟨_, rfl, ?_, Reps.of_ints _⟩
    rw [List.length_map, (sortI_perm ns).length_eq]
    rw [List.length_map] at a2
    exact a2
section
variable {X : Cx} {W : WD} {own : Bool}
theorem do_bb {x : Str} {id : String} {e : Expr} {es : List Expr} {p pos : Pos} {r : List V → Hp → VK → Prop} {f : List D → Option D} {g : EM (List D)} (hc : CallR X (.builtin id) r) (h : ArN X.K r f) (hg : Gl X x) (hm : X.mg x = none) (hv : bootBuiltins x = some (.builtin id)) (ha : DA X W (e :: es) g)
    (hn : x ≠ "__name__" := by decide) (hdb : (x == ("__debug__" : Str)) = false := by decide) (he : starEach (e :: es) X.env = (false, eval e X.env) :: starEach es X.env := by rfl) (hpl : (backTo pos (starEach es X.env)).any (·.1) = false := by rfl) :
    DO X W (.Call (.Name x p) (e :: es) [] pos) (eArgs f g) := pe_imp (pe_callB hc hg hm hv ha hn hdb he hpl) (redN h)
theorem do_mul {a b : Expr} {pos : Pos} {ga gb : EM D} (ha : DE X W a ga) (hb : DE X W b gb) : DO X W (.BinOp a .Mult b pos) (eBin fMulL ga gb) := by
  refine pe_imp (pe_op op_rep ha hb) fun σ H Q hq => ?_
  obtain ⟨C, l, rw, G, S, hp⟩ := hq
  refine seqD (P := POq X.K W C l σ H G Q) S hp (fun _ _ z => z) (fun z => z) fun d1 rw1 v1 H1 G1 S1 s1 r1 h1 => ?_
  refine seqD (P := POq X.K W C l σ H G Q) S1 h1 (fun _ _ z => z) (fun z => z) fun d2 rw2 v2 H2 G2 S2 s2 r2 h2 => ?_
  dsimp only [POq] at h2
  cases d1 with
  | lst xs =>
    cases d2 with
    | int k =>
      unfold fMulL at h2
      by_cases hc : (-1000000000000 ≤ k ∧ k ≤ 1000000000000) ∧ xs.length * k.toNat ≤ sizeLine
      case neg => dsimp only at h2; rw [if_neg hc] at h2; exact h2.elim
      dsimp only at h2
      rw [if_pos hc] at h2
      have r1' := r1.mono s2.g
      unfold Rep at r1' r2
      obtain ⟨a, us, rfl, a1, a2, a3⟩ := r1'
      subst r2
      have hz : us.length * k.toNat ≤ sizeLine := by rw [← a3.length]; exact hc.2
      have rr : ∀ n : Nat, Reps X.K C.r G2 (List.replicate n xs).flatten (List.replicate n us).flatten := by
        intro n
        induction n with
        | zero => exact Reps.nil
        | succ n ih => rw [List.replicate_succ, List.replicate_succ, List.flatten_cons, List.flatten_cons]; exact a3.append ih
      have hlen : ((List.replicate k.toNat us).flatten).length ≤ sizeLine := by
        rw [List.length_flatten, List.map_replicate, List.sum_replicate_nat, Nat.mul_comm]; exact hz
      refine ⟨a, k, us, rfl, rfl, S2.sub _ _ a1, (small63' hc.1).1, (small63' hc.1).2, hz, fun p hp0 => ?_⟩
      refine h2 p _ G2 (S2.newO hp0) ((s1.trans s2).trans (Gr.newO S2.sub hp0)) ?_ (S2.ownNew hp0 ⟨_, rfl, hlen, rr _⟩ rfl)
      cases z : H p with
      | none => rfl
      | some o => obtain ⟨o', z2⟩ := (s1.trans s2).t _ _ z; rw [hp0] at z2; cases z2
    | _ => exact h2.elim
  | _ => cases d2 <;> exact h2.elim
/-- own.append(own2.pop(e)) -/
def sApPop (i j : Nat) (g : EM D) : SM := fun l rw => match l[i]?, l[j]? with
  | some (.own (.lst ds)), some (.own (.lst es)) => if i = j then .stuck else (g l rw).bind fun p => (match p.1 with
    | .int k => (match ixN es.length k with
      | some n => (match es[n]? with
        | some d => if ds.length < 100000 ∧ es.length < 100000 then .ok (.next, (l.set j (.own (.lst (es.eraseIdx n)))).set i (.own (.lst (ds ++ [d]))), p.2) else .stuck
        | none => .stuck)
      | none => .stuck)
    | _ => .stuck)
  | _, _ => .stuck
theorem ds_apPop {i j : Nat} {st : Stmt} {g : EM D} (h : PS X st (tDrop (tBM X.K "list" rAppend (tVar i) (tCons (tBM X.K "list" rPopAt (tVar j) (tCons (tD X.K W g) tNil)) tNil)))) : DS X W own st (sApPop i j g) := by
  refine ps_imp h fun E σ H hq => ?_
  obtain ⟨C, l, rw, G, S, hp⟩ := hq
  unfold sApPop at hp
  split at hp
  case h_2 => exact hp.elim
  case h_1 ds es ei ej =>
    by_cases hij : i = j
    · rw [if_pos hij] at hp; exact hp.elim
    rw [if_neg hij] at hp
    obtain ⟨p, p1, op⟩ := S.ownAt ei
    obtain ⟨p', pq, _, _, _, vs, b1, _, _⟩ := op
    cases pq
    obtain ⟨q, q1, oq⟩ := S.ownAt ej
    obtain ⟨q', qq, _, _, _, ws, c1, _, _⟩ := oq
    cases qq
    refine ⟨.ref p, p1, .inl ⟨rfl, _, .of b1⟩, .ref q, q1, .inl ⟨rfl, _, .of c1⟩, ?_⟩
    refine seqD (P := PSq X.K W own C E) S hp (fun x w z H' G' S' => z l σ H' G' S') (fun z => z) fun d1 rw1 v1 H1 G1 S1 s1 r1 h1 => ?_
    dsimp only [PSq] at h1
    cases d1 with
    | int k =>
      dsimp only at h1
      cases en : ixN es.length k with
      | none => rw [en] at h1; exact h1.elim
      | some n =>
        rw [en] at h1
        dsimp only at h1
        cases ed : es[n]? with
        | none => rw [ed] at h1; exact h1.elim
        | some d =>
          rw [ed] at h1
          dsimp only at h1
          by_cases hl : ds.length < 100000 ∧ es.length < 100000
          case neg => rw [if_neg hl] at h1; exact h1.elim
          rw [if_pos hl] at h1
          unfold Rep at r1
          subst r1
          obtain ⟨p2, p3, op⟩ := S1.ownAt ei
          rw [p1] at p3; cases p3
          obtain ⟨_, pq, hgp, _, _, vs, b1, b2, b3⟩ := op
          cases pq
          obtain ⟨q2, q3, oq⟩ := S1.ownAt ej
          rw [q1] at q3; cases q3
          obtain ⟨_, qq, hgq, _, _, ws, c1, c2, c3⟩ := oq
          cases qq
          obtain ⟨y, ey, ry⟩ := c3.get ed
          have hpq : p ≠ q := fun e => S1.ow i j _ _ p hij ei ej p1 (by rw [e]; exact q1)
          obtain ⟨x1, x2, x3, x4⟩ := ixN_seq en
          have hwl : es.length = ws.length := c3.length
          refine ⟨q, ws, k, n, y, rfl, rfl, c1, ?_, ?_, ?_, ey, ?_⟩
          · have := hl.2; omega
          · have := hl.2; omega
          · rw [← hwl]; exact x1
          have S2 := S1.mutAt (o' := .lst (ws.eraseIdx n)) ej q1 (d' := .lst (es.eraseIdx n)) rfl ⟨_, rfl, by have := List.length_eraseIdx_le ws n; omega, c3.eraseIdx n⟩
          have ei2 : (l.set j (.own (.lst (es.eraseIdx n))))[i]? = some (.own (.lst ds)) := by rw [List.getElem?_set_ne (fun z => hij z.symm)]; exact ei
          have hvl : ds.length = vs.length := b3.length
          refine ⟨p, vs, y, rfl, rfl, by rw [upd_ne hpq]; exact b1, by rw [sizeLine_eq]; omega, ?_⟩
          refine h1 σ _ G1 (S2.mutAt (o' := .lst (vs ++ [y])) ei2 p1 (d' := .lst (ds ++ [d])) rfl ⟨_, rfl, ?_, b3.append (Reps.cons ry Reps.nil)⟩)
          rw [List.length_append, List.length_singleton, sizeLine_eq]; omega
    | _ => exact h1.elim
end
end HD
end
section
/-! The data layer: the key x[:2] of a triple that begins with whole numbers. -/
namespace HD
open PySem PySem.Spec L2
open PyProof.Rows hiding St
def KH2 (K : PySem.W.Frag) (H : Hp) (v : V) (d : D) : Prop := ∃ (t : Addr) (a b : Int) (x : D) (u : V), v = .ref t ∧ d = .tup [.int a, .int b, x] ∧ SqT K H t [.int a, .int b, u]
def kf2 : D → PyData
  | .tup (.int a :: .int b :: _) => .tuple [.int a, .int b]
  | _ => .tuple [.int 0, .int 0]
def ok2 : D → Bool
  | .tup [.int _, .int _, _] => true
  | _ => false
theorem ok2_is {d : D} (h : ok2 d = true) : ∃ a b x, d = .tup [.int a, .int b, x] := by
  unfold ok2 at h
  split at h
  · exact ⟨_, _, _, rfl⟩
  · cases h
theorem key2 {X : Cx} {scope : Scope} {x : Str} {p1 p2 p3 p4 : Pos} {j : Nat} (hx : scope.names.lookup x = some .local) (hk : scope.kind = .function) (hd : (x == ("__debug__" : Str)) = false := by decide) :
    KeyR X (.Subscript (.Name x p1) (.Slice none (some (.Constant (.int 2) j p2)) none p3) p4) scope x (KH2 X.K) kf2 where
  stay := fun H H1 v d e ⟨t, a, b, y, u, h1, h2, h3⟩ => ⟨t, a, b, y, u, h1, h2, SqT.grown e h3⟩
  deep := fun H v d ⟨t, a, b, y, u, h1, h2, h3⟩ => by
    subst h2
    show PyData.depth (.tuple [.int a, .int b]) ≤ 8
    simp [PyData.depth, PyData.depthAll]
  body := by
    rintro pins s σ H v uv d I ru ⟨t, a, b, y, u, rfl, rfl, hq⟩ A L f c' s2 hns hk2 hA
    obtain rfl : uv = Value.ref t := ru
    obtain ⟨its, rv, pl, hz⟩ := I.tuple hq
    have pl2 : IsTup s2.heap t its.toArray := let ⟨o, e, c⟩ := pl; ⟨o, hk2 _ _ e, c⟩
    have hil : its.length = 3 := rv.length.symm
    obtain ⟨i0, i1, i2, rfl⟩ : ∃ i0 i1 i2, its = [i0, i1, i2] := by
      match its, hil with
      | [i0, i1, i2], _ => exact ⟨_, _, _, rfl⟩
    cases rv with
    | cons r0 rv =>
      cases rv with
      | cons r1 rv =>
        obtain ⟨t0, rfl⟩ := r0
        obtain ⟨t1, rfl⟩ := r1
        refine Subscript_ (wpAny_Name (wpAny_loadName_local (v := Value.ref t) hk hx hns ?_ ?_) hd)
        · show ([(x, Value.ref t)] : List (Str × Value)).reverse.lookup x = some (.ref t)
          simp [List.lookup]
        refine wpAny_Slice ?_
        rw [evalPart_none]
        refine wpAny_pure ?_
        rw [evalPart_some]
        refine wpAny_Constant_int ?_
        refine wpAny_pure ?_
        have T2 : (s2.heap.push { cls := Value.type "slice", data := Data.fields #[Value.none, Value.int 2 s2.toks, Value.none] }).IsSliceOf s2.heap.objs.size .none (.int 2 s2.toks) .none := Heap.IsSliceOf.new ..
        have pl3 : IsTup (s2.heap.push { cls := Value.type "slice", data := Data.fields #[Value.none, Value.int 2 s2.toks, Value.none] }) t #[Value.int a t0, Value.int b t1, i2] := let ⟨o, e, c⟩ := pl2; ⟨o, Heap.get?_push_of_some _ e, c⟩
        refine tail_any (T := "tuple") (ops := [.ref s2.heap.objs.size, .ref t]) (IsTup.typeIs pl3) PyProof.Rows.slot_tuple_getitem.lookup ?_ (by with_unfolding_all rfl)
        refine HT.getItem_tuple_cut (lo := none) (hi := some 2) pl3 T2 ?_ ?_ ?_ ?_ ?_
        · first | exact .none | exact IsPart.none | exact .inl ⟨rfl, rfl⟩ | (simp [IsPart])
        · first | exact .int _ _ | exact IsPart.int _ _ | exact ⟨_, rfl⟩ | (simp [IsPart])
        · show ¬ (HT.sIx 3 0 none = 0 ∧ HT.sIx 3 3 (some 2) = 3)
          decide
        · refine ⟨_, _, rfl, fun b o e => Heap.get?_push_of_some _ (Heap.get?_push_of_some _ e), ?_⟩
          show PySem.Reads _ _ (.tuple [.int a, .int b]) []
          refine .tuple (as := []) (Heap.get?_push_size _ rfl) rfl rfl ?_
          exact .cons (as := []) (bs := []) (.int _ _) (.cons (as := []) (bs := []) (.int _ _) .nil)
        · show 3 ≤ sizeLine; rw [sizeLine_eq]; decide
theorem reps3 {K : PySem.W.Frag} {o : Option Addr} {G : Hp} {d e f : D} {vs : List V} (r : Reps K o G [d, e, f] vs) : ∃ v u w, vs = [v, u, w] ∧ Rep K o G d v ∧ Rep K o G e u ∧ Rep K o G f w := by
  unfold Reps at r
  obtain ⟨v, t, rfl, r1, r2⟩ := r
  obtain ⟨u, w, rfl, r3, r4⟩ := reps2 r2
  exact ⟨v, u, w, rfl, r1, r3, r4⟩
theorem ok2_KH {K : PySem.W.Frag} (r : Option Addr) (G H : Hp) (d : D) (v : V) (s : Same G H) (rr : Rep K r G d v) (h : ok2 d = true) : KH2 K H v d := by
  obtain ⟨a, b, x, rfl⟩ := ok2_is h
  unfold Rep at rr
  obtain ⟨t, vs, rfl, a1, a2, a3⟩ := rr
  obtain ⟨v0, v1, v2, rfl, r0, r1, r2⟩ := reps3 a3
  unfold Rep at r0 r1
  subst r0 r1
  exact ⟨t, a, b, x, v2, rfl, rfl, Same.seqT s a1⟩
theorem ok2_alike (d e : D) (h : ok2 d = true) (h' : ok2 e = true) : PySem.W.alike (kf2 d) (kf2 e) = true := by
  obtain ⟨a, b, x, rfl⟩ := ok2_is h
  obtain ⟨c, f, y, rfl⟩ := ok2_is h'
  rfl
theorem ok2_sort (d : D) (h : ok2 d = true) : ∃ x r, kf2 d = .tuple (x :: r) := by
  obtain ⟨a, b, x, rfl⟩ := ok2_is h
  exact ⟨_, _, rfl⟩
section
variable {X : Cx} {W : WD}
theorem do_sortKey2 {e : Expr} {params : Arguments} {scope : Scope} {x nm : Str} {p pos lpos kpos p1 p2 p3 p4 : Pos} {g : EM (List D)} {j i : Nat} {c P : Addr} (hr : Room j X.A) (hg : Gl X "sorted") (hm : X.mg "sorted" = none) (hml : X.mg "len" = none) (ha : DA X W [e] g)
    (T : LamT X.K X.mg X.base nm c P) (hq : X.env.qual = nm ++ (".<locals>." : Str)) (hcode : X.env.code = .ref c) (hdef : defaultsOf params X.env = ([], [])) (L : KScope scope x) (hl : scope.kind = .function)
    (hbind : ∀ (q : Str) (pm cv ctv u : Value), bindArgs (PySem.W.kla_fn "<lambda>" q params (.Subscript (.Name x p1) (.Slice none (some (.Constant (.int 2) i p2)) none p3) p4) scope [] pm cv ctv) ⟨[u], []⟩ = pure [(x, u)]) (hd : (x == ("__debug__" : Str)) = false := by decide)
    (he : backTo pos (starEach [e] X.env) = (false, eval e X.env) :: backTo pos (starEach [] X.env) := by rfl) (hpl : (backTo pos (starEach [e] X.env)).any (·.1) = false := by rfl) :
    DO X W (.Call (.Name "sorted" p) [e] [⟨some (Str.ofString "key"), .Lambda params (.Subscript (.Name x p1) (.Slice none (some (.Constant (.int 2) i p2)) none p3) p4) scope lpos, kpos⟩] pos) (eArgs (sortKeyD kf2 ok2) g) :=
  pe_imp (pe_sortKey (key2 L.loc L.kind hd) hr hg hm ha T.tb hcode (by rw [hq]; exact T.mem) (by rw [hq]; exact T.uni) hdef L hbind (he := he) (hpl := hpl)) (redSortKey ok2_KH ok2_alike ok2_sort)
end
end HD
end
section
/-! The data layer: a law whose own body makes lambdas. -/
namespace HD
open PySem PySem.Spec L2
open PyProof.Rows hiding St
section
variable {P : Program} {w : World} {K : PySem.W.Frag} {mg : Str → Option Value} {base : Heap} {f : Addr} {fd : FuncData}
theorem law_okC {st : Stmt} {N : List Str} {x : Str} {s0 : Stmt} {rest : List Stmt} {den : SM} {k : Nat} (F : FunD K "law" "law" (defArgs st) (defBody st) (defScope st) [] [] f fd) (S : FnScope N [x] (defScope st)) (hbody : defBody st = s0 :: rest)
    (hN : 2 ≤ N.length)
    {c : Addr} (hc : fd.code = .ref c) (h0 : ∀ (A : Around) (outer : List Env) (s : Shared) (H : Hp) (E : XK), PS (cxOf CXF P w K mg base N "law" (defScope st) f (.ref c) A outer s H E).nox s0 (tAsg (tLst (tCons (tVar 0) (tCons (tC (.int 0)) (tCons (tC (.int 0)) tNil)))) (gName 1)))
    (hb : ∀ (A : Around) (outer : List Env) (s : Shared) (H : Hp) (E : XK), Room k (A.deeper (envOfC "law" (defScope st) s.heap.objs.size f (.ref c))) → DSs (cxOf CXF P w K mg base N "law" (defScope st) f (.ref c) A outer s H E).nox W0 false rest den)
    (hp : ∀ ns : List Int, ns.length ≤ 63 → ∃ l' rw', den (.val (.scr ns) :: .val .row :: List.replicate (N.length - 2) .no) (some ⟨ns, 0, 0⟩) = .ok (.ret (.bl true), l', rw')) :
    FnOk P w K mg base CXF (k + 1) f fd [x] (spL K) := by
  obtain ⟨oc, od, dV, kV, doc, pm, an, cdv, ct, osl, rfl, lk, hcd, _, _⟩ := F.ex
  obtain rfl : cdv = .ref c := hc
  refine fn_of lk hcd S (fun vs H Q E h => by obtain ⟨a, ns, rfl, _⟩ := h; rfl) fun A outer s H vs Q E hr h => ?_
  obtain ⟨a, ns, rfl, hS, hT, hl, hQ⟩ := h
  rw [hbody]
  refine ⟨_, PSs.nox (pss_locked (pss_cons (h0 A outer s H E) (hb A outer s H E hr))), ?_⟩
  have hst : start N [V.ref a] = some (.ref a) :: none :: List.replicate (N.length - 2) none := by
    unfold L2.start
    show [some (V.ref a)] ++ List.replicate (N.length - 1) none = _
    obtain ⟨m, hm⟩ : ∃ m, N.length = m + 2 := ⟨N.length - 2, by omega⟩
    rw [hm]
    rfl
  rw [hst]
  have hl' : ns.length ≤ sizeLine := by rw [sizeLine_eq]; omega
  have core : ∀ H1 G1 : Hp, Same G1 H1 → (∀ a o, G1 a = some o → nTb o) → LamX.Tabs (tabT K) H1 → (∀ o, Rep K o G1 (.scr ns) (.ref a)) →
      tSeq (tAsg (tLst (tCons (tVar 0) (tCons (tC (.int 0)) (tCons (tC (.int 0)) tNil)))) (gName 1)) (tS K W0 false den) { nx := fun _ H' => Q .non H', rt := Q } (some (.ref a) :: none :: List.replicate (N.length - 2) none) H1 := by
    intro H1 G1 sub gt1 hT1 hr1
    refine ⟨.ref a, rfl, by show 3 ≤ sizeLine; rw [sizeLine_eq]; decide, fun p hp0 => ?_⟩
    obtain ⟨l', rw', e⟩ := hp ns hl
    have hg0 : G1 p = none := by
      cases q : G1 p with
      | none => rfl
      | some o => have := sub _ _ q; rw [hp0] at this; cases this
    have hH : Same H1 (upd H1 p (.lst [.ref a, .int 0, .int 0])) := fun b u e => by rw [upd_ne (ne_of_none e hp0)]; exact e
    refine ⟨⟨some p, H1, G1⟩, .val (.scr ns) :: .val .row :: List.replicate (N.length - 2) .no, some ⟨ns, 0, 0⟩, G1, ⟨sub.trans hH, fun b o e _ _ => hH b o e, fun b o e => ⟨o, hH b o e⟩, TabR.new hp0 hT1, Same.refl _, fun b o e => .inl e, gt1, ?_, fun i x hi => ?_, fun i j d e q hij hi hj _ => ?_, ?_⟩, ?_⟩
    · simp
    · match i, hi with
      | 0, hi =>
        cases hi
        exact ⟨some (.ref a), rfl, .ref a, rfl, hr1 _⟩
      | 1, hi =>
        cases hi
        exact ⟨some (.ref p), rfl, .ref p, rfl, by unfold Rep; exact ⟨p, rfl, rfl⟩⟩
      | i + 2, hi =>
        have hi : (List.replicate (N.length - 2) Sl.no)[i]? = some x := hi
        rw [List.getElem?_replicate] at hi
        split at hi
        · rename_i hlt
          cases hi
          refine ⟨none, ?_, trivial⟩
          show (List.replicate (N.length - 2) (none : Option V))[i]? = some none
          rw [List.getElem?_replicate, if_pos hlt]
        · cases hi
    · match i, hi with
      | 0, hi => cases hi
      | 1, hi => cases hi
      | i + 2, hi =>
        have hi : (List.replicate (N.length - 2) Sl.no)[i]? = some (.own d) := hi
        rw [List.getElem?_replicate] at hi
        split at hi <;> cases hi
    · exact ⟨hg0, .ref a, upd_same, hr1 _⟩
    · rw [e]
      intro v σ' H' G' S' rr
      unfold RetRep at rr
      rw [if_neg Bool.false_ne_true] at rr
      unfold Rep at rr
      subst rr
      exact hQ H'
  rcases hS with (hS | ⟨ob, hS⟩) | hS
  · refine .inr ⟨a, _, hS, trivial, fun od => ?_⟩
    refine core _ (fun b => if b = a then some (.frz od (.lst (ns.map V.int))) else none) (fun b u e => ?_) (fun b u e => ?_) ((TabR.put fun u e => by rw [hS] at e; cases e; exact nTE_lst) hT) fun o => ?_
    · dsimp only at e
      by_cases hb : b = a
      · subst hb; rw [if_pos rfl] at e; rw [upd_same]; exact e
      · rw [if_neg hb] at e; cases e
    · by_cases hb : b = a
      · rw [if_pos hb] at e; cases e; exact fun _ z => nomatch z
      · rw [if_neg hb] at e; cases e
    · unfold Rep
      exact ⟨a, rfl, .inl ⟨od, if_pos rfl⟩, hl'⟩
  · refine .inl (core H (fun b => if b = a then H a else none) (fun b u e => ?_) (fun b u e => ?_) hT fun o => ?_)
    · dsimp only at e
      by_cases hb : b = a
      · subst hb; rw [if_pos rfl] at e; exact e
      · rw [if_neg hb] at e; cases e
    · by_cases hb : b = a
      · rw [if_pos hb, hS] at e; cases e; exact fun _ z => nomatch z
      · rw [if_neg hb] at e; cases e
    · unfold Rep
      exact ⟨a, rfl, .inl ⟨ob, by rw [if_pos rfl]; exact hS⟩, hl'⟩
  · refine .inl (core H (fun _ => none) (fun b u e => by cases e) (fun b u e => by cases e) hT fun o => ?_)
    unfold Rep
    exact ⟨a, rfl, .inr (.inr hS), hl'⟩
end
end HD
end
section
/-! Exceptions of the program's own classes: made, raised, passed on. -/
namespace HD
open PySem PySem.Spec L2
open PyProof.Rows hiding St
/-- Base.__init__(self, ..), Base an own class without an __init__ of its own -/
structure BaseC (K : PySem.W.Frag) (B : Addr) : Prop where
  ga : PySem.W.specialIn K (.ref B) "__getattribute__" = some (some (.builtin "type.__getattribute__"))
  rd : PySem.W.readsIn K B (.type "type") = true
  fi : PySem.W.findCls K (.ref B) (.type "type") "__init__" = some (.val (.builtin "ValueError.__init__"))
section
variable {X : Cx} {e : Expr} {es : List Expr} {ta : TA} {p1 p2 pos : Pos} {x : Str} {B : Addr}
theorem pe_baseinit {pl : Sem Bool} (hg : Gl X x) (hm : X.mg x = some (.ref B)) (hB : BaseC X.K B) (ha : PA X (e :: es) ta) (hdb : (x == ("__debug__" : Str)) = false := by decide)
    (hc : eval (.Call (.Attribute (.Name x p1) "__init__" p2) (e :: es) [] pos) X.env = (do
      let ov ← eval (.Name x p1) X.env
      standAt p2.atName
      let (f, first) ← holding [ov] (getMethod ov "__init__" pl)
      callWith pos f first (backTo pos (starEach (e :: es) X.env)) (backToKw pos (keywordEach [] X.env))) := by rfl)
    (he : starEach (e :: es) X.env = (false, eval e X.env) :: starEach es X.env := by rfl) (hpl : (backTo pos (starEach es X.env)).any (·.1) = false := by rfl) :
    PE X (.Call (.Attribute (.Name x p1) "__init__" p2) (e :: es) [] pos) (tVeI X.K ta) := by
  refine ⟨fun pins s σ H Q I h => ?_⟩
  refine PySem.W.methodCall_KW (ld_glob I hg hm ?_ hdb) hc
  refine PySem.W.method_cls I.kIn hB.ga (PySem.W.cls_value I.kIn hB.rd hB.fi (by decide +kernel) ?_)
  show wpAny _ _ (callWith pos (Value.builtin "ValueError.__init__") [] (backTo pos (starEach (e :: es) X.env)) []) _ _ _
  refine PyProof.Rows.callWith_method1 (thn (ha.run pos pins _ σ H _ (I.tok _) h) fun us s1 ⟨vs, H1, I1, r1, a, C, ws, ev, hl, T, ea, q⟩ => ?_) he hpl
  subst ev
  cases r1 with
  | @cons _ u0 _ ur ra rw' =>
    obtain rfl : u0 = Value.ref a := ra
    have hlen : ur.length ≤ sizeLine := by
      rw [← Paired.length rw', sizeLine_eq]
      omega
    exact oinit_ok T I1 ea hlen fun s' J => ⟨.non, H1, J, rfl, q⟩
end
/-! ### __init__(self, f): Base.__init__(self, f); self.f = f -/
def spI (K : PySem.W.Frag) (fl : Str) : Sp := fun vs H Q _ => ∃ (a C : Addr) (y : V), vs = [.ref a, y] ∧ OexC K C ∧ PySem.W.findIn K (.ref C) fl = some none ∧ H a = some (exo a C none) ∧ ∀ d, H d = none → d ≠ a → Q .non (upd (upd H d (exd d [(fl, y)])) a (exo a C (some d)))
section
variable {P : Program} {w : World} {K : PySem.W.Frag} {mg : Str → Option Value} {base : Heap} {CX : CXT} {qual bx fl : Str} {params : Arguments} {scope : Scope} {f B : Addr} {fd : FuncData} {p1 p2 p3 p4 p5 p6 q1 q2 q3 q4 : Pos}
theorem init_ok (F : FunD K "__init__" qual params [.Expr (.Call (.Attribute (.Name bx p1) "__init__" p2) [.Name "self" p3, .Name fl p4] [] p5) p6, .Assign [.Attribute (.Name "self" q1) fl q2] (.Name fl q3) q4] scope [] [] f fd) (S : FnScope ["self", fl] ["self", fl] scope)
    (hb : mg bx = some (.ref B)) (hB : BaseC K B) (hgl : ∀ (cdv : Value) (A : Around) (outer : List Env) (s : Shared) (H : Hp) (E : XK), Gl (cxOf CX P w K mg base ["self", fl] qual scope f cdv A outer s H E) bx) (hdb : (bx == ("__debug__" : Str)) = false)
    (hps : ∀ (cdv : Value) (A : Around) (outer : List Env) (s : Shared) (H : Hp) (E : XK), PSs (cxOf CX P w K mg base ["self", fl] qual scope f cdv A outer s H E) [.Expr (.Call (.Attribute (.Name bx p1) "__init__" p2) [.Name "self" p3, .Name fl p4] [] p5) p6, .Assign [.Attribute (.Name "self" q1) fl q2] (.Name fl q3) q4]
      (tSeq (tDrop (tVeI K (tCons (tVar 0) (tCons (tVar 1) tNil)))) (tSeq (tOst K fl (tVar 0) (tVar 1)) tNext))) :
    FnOk P w K mg base CX 1 f fd ["self", fl] (spI K fl) := by
  refine F.ok S (fun vs H Q E h => by obtain ⟨a, C, y, rfl, _⟩ := h; rfl) fun cdv A outer s H vs Q E hr h => ?_
  obtain ⟨a, C, y, rfl, T, hno, ea, hq⟩ := h
  refine ⟨_, hps cdv A outer s H E, ?_⟩
  refine ⟨.ref a, rfl, y, rfl, a, C, [y], rfl, by show 1 ≤ 1000; decide, T, ea, ?_⟩
  refine ⟨y, rfl, .ref a, rfl, a, C, rfl, T, hno, .inl ⟨ea, fun dx h1 h2 => ?_⟩⟩
  exact hq dx h1 h2
end
/-! ### what is raised -/
def Exn.nm : Exn → Str
  | .web _ => "BadWeb"
  | .ask => "BadAsk"
  | .log _ => "BadLog"
  | .text _ => "BadText"
def XdAt (d : Option Addr) (H : Hp) (f : Str) (v : V) : Prop := ∃ dd fs, d = some dd ∧ H dd = some (.xd fs) ∧ fs.lookup f = some v
def ExAt (mg : Str → Option Value) (x : Exn) (cls : Value) (d : Option Addr) (H : Hp) : Prop := ∃ C, mg (Exn.nm x) = some (.ref C) ∧ cls = .ref C ∧ (match x with
  | .web w => XdAt d H "word" (.str w)
  | .ask => True
  | .log n => XdAt d H "number" (.int n)
  | .text n => XdAt d H "row" (.int n))
/-- a wish of the walk, by what is raised -/
def wdOf (mg : Str → Option Value) (Wx : WX) : WD := fun x σ H => ∀ cls d, ExAt mg x cls d H → Wx cls d σ H
def xwL (mg : Str → Option Value) : XW := fun E x H => ∀ cls d, ExAt mg x cls d H → E cls d H
section
variable {P : Program} {w : World} {K : PySem.W.Frag} {mg : Str → Option Value} {base : Heap} {x qual : Str} {params : Arguments} {body : List Stmt} {scope : Scope} {dvs : List V} {kws : List (Str × V)} {f : Addr} {fd : FuncData}
/-- a def that may let an exception out -/
theorem fnX_den {own : Bool} {N ps : List Str} {k : Nat} {den : SM} (F : FunD K x qual params body scope dvs kws f fd) (S : FnScope N ps scope)
    (hb : ∀ (cdv : Value) (A : Around) (outer : List Env) (s : Shared) (H : Hp) (E : XK), Room k (A.deeper (envOfC qual scope s.heap.objs.size f cdv)) → DSs (cxOf (L2.CX P w) P w K mg base N qual scope f cdv A outer s H E) (wdOf mg fun cls d _ H => E cls d H) own body den) :
    FnOk P w K mg base (L2.CX P w) (k + 1) f fd ps (spD K own (xwL mg) (dDef own ps.length N.length den)) :=
  F.ok S (fun vs H Q E h => sp_len h) fun cdv A outer s H vs Q E hr h => ⟨_, hb cdv A outer s H E hr, sp_start (W := wdOf mg fun cls d _ H => E cls d H) (fun _ _ _ z => z) (fun _ _ _ => Iff.rfl) h⟩
end
section
variable {X : Cx} {Wx : WX} {k : Nat} {f : Addr} {fd : FuncData} {ps : List Str} {F : FD} {x : Str} {p pos : Pos} {e : Expr} {es : List Expr} {g : EM (List D)}
theorem redCallS {F : FD} {g : EM (List D)} : ∀ σ H Q, tD X.K (wdOf X.mg Wx) (eCall F g) σ H Q → tCallS (spD X.K false (xwL X.mg) F) (WE Wx) (tA X.K (wdOf X.mg Wx) g) σ H Q := by
  intro σ H Q hq
  obtain ⟨C, l, rw, G, S, hp⟩ := hq
  refine seqA (P := PEq X.K (wdOf X.mg Wx) C l σ H G Q) S hp (fun _ _ z => z) (fun z => z) fun ds rw1 vs H1 G1 S1 s1 r1 h1 => ?_
  dsimp only [PEq] at h1
  refine ⟨C.r, G1, ds, rw1, S1.sub, r1, ⟨S1.tabs, S1.row, S1.gt⟩, ?_⟩
  cases e : F ds rw1 with
  | stuck => rw [e] at h1; exact h1.elim
  | exc x w =>
    rw [e] at h1
    exact fun H' G' g' w' => h1 H' G' (S1.grow g' w'.w)
  | ok p =>
    obtain ⟨d, rw'⟩ := p
    rw [e] at h1
    intro v H' G' g' w' rr
    unfold FRet at rr
    rw [if_neg Bool.false_ne_true] at rr
    exact h1 v H' G' (S1.grow g' w'.w) (s1.trans g') rr
theorem deX_call (Fo : FnOk X.prog X.w X.K X.mg X.base (L2.CX X.prog X.w) k f fd ps (spD X.K false (xwL X.mg) F)) (hr : Room k X.A) (hg : Gl X x) (hm : X.mg x = some (.ref f)) (hk : PySem.W.keepIn X.K (.ref f) = true) (hb : Binds X.K fd ps []) (tk : Takes X Wx)
    (ha : DA X (wdOf X.mg Wx) (e :: es) g) (hdb : (x == ("__debug__" : Str)) = false := by decide) (he : starEach (e :: es) X.env = (false, eval e X.env) :: starEach es X.env := by rfl) (hpl : (backTo pos (starEach es X.env)).any (·.1) = false := by rfl) :
    DE X (wdOf X.mg Wx) (.Call (.Name x p) (e :: es) [] pos) (eCall F g) := pe_imp (pe_callS Fo hr hg hm hk hb (fun σ => passAt tk σ) ha hdb he hpl) redCallS
end
/-- what lets nothing out may stand where nothing is wished -/
theorem EPost.weak {K : PySem.W.Frag} {W : WD} {C : C0} {l : Dl} {σ : St} {H G : Hp} {q : R (D × Rw)} {Q : VK} (h : EPost K W0 C l σ H G q Q) : EPost K W C l σ H G q Q := by
  unfold EPost at h ⊢
  cases q with
  | ok p => exact h
  | exc x w => exact fun H' G' S' => (h H' G' S').elim
  | stuck => exact h
theorem de_weak {X : Cx} {W : WD} {e : Expr} {g : EM D} (h : DE X W e g) : DE X W0 e g := pe_imp h fun σ H Q hq => by
  obtain ⟨C, l, rw, G, S, hp⟩ := hq
  exact ⟨C, l, rw, G, S, hp.weak⟩
/-- raise C(e) -/
def rz1 (o : Option Exn) (rw : Rw) : R (Fl × Dl × Rw) := match o with
  | some x => .exc x rw
  | none => .stuck
def rzK (mk : D → Option Exn) (ds : List D) (rw : Rw) : R (Fl × Dl × Rw) := match ds with
  | [d] => rz1 (mk d) rw
  | _ => .stuck
def sRaise (mk : D → Option Exn) (g : EM (List D)) : SM := fun l rw => (g l rw).bind fun p => rzK mk p.1 p.2
structure RzC (K : PySem.W.Frag) (mg : Str → Option Value) (nm fl : Str) (C : Addr) : Prop where
  g : mg nm = some (.ref C)
  o : OexC K C
  no : PySem.W.findIn K (.ref C) fl = some none
theorem ds_raise {X : Cx} {Wx : WX} {own : Bool} {mk : D → Option Exn} {g : EM (List D)} {e : Expr} {nm fl : Str} {C fI : Addr} {k : Nat} {fd : FuncData} {p p2 pos pos2 : Pos} (hc : X.calm = true) (tk : Takes X Wx) (T : RzC X.K X.mg nm fl C)
    (iC : PySem.W.findIn X.K (.ref C) "__init__" = some (some (.ref fI))) (tI : PySem.W.typeIn X.K (.ref fI) = some (.type "function")) (F1 : FnOk X.prog X.w X.K X.mg X.base (L2.CX X.prog X.w) k fI fd ["self", fl] (spI X.K fl)) (hr : Room (k + 1) X.A) (hb : Binds X.K fd ["self", fl] [])
    (hmk : ∀ (d : D) (x : Exn) (K : PySem.W.Frag) (o : Option Addr) (G : Hp) (v : V), mk d = some x → Rep K o G d v → Exn.nm x = nm ∧ ∀ (dd : Addr) (H : Hp), H dd = some (.xd [(fl, v)]) → ExAt X.mg x (.ref C) (some dd) H)
    (hg : Gl X nm) (ha : DA X (wdOf X.mg Wx) [e] g) (hdb : (nm == ("__debug__" : Str)) = false := by decide) (he : starEach [e] X.env = (false, eval e X.env) :: starEach [] X.env := by rfl) (hpl : (backTo pos (starEach [] X.env)).any (·.1) = false := by rfl) :
    DS X (wdOf X.mg Wx) own (.Raise (some (.Call (.Name nm p) [e] [] pos)) none pos2) (sRaise mk g) := by
  refine ps_imp (ps_raise hc tk (pmk_oex (dvs := []) (ds := []) T.o iC tI F1 hr hb .nil passL hg T.g ha hdb he hpl)) fun Ee σ H hq => ?_
  obtain ⟨C0, l, rw, G, S, hp⟩ := hq
  refine seqA (P := PSq X.K (wdOf X.mg Wx) own C0 Ee) S hp (fun x w z H' G' S' => z l σ H' G' S') (fun z => z) fun ds rw1 vs H1 G1 S1 s1 r1 h1 => ?_
  dsimp only [PSq] at h1
  match ds, r1, h1 with
  | [d], r1, h1 =>
    obtain ⟨v, rfl, r2⟩ := reps1 r1
    have h1 : SPost X.K (wdOf X.mg Wx) own C0 (rz1 (mk d) rw1) Ee := h1
    cases hx : mk d with
    | none => rw [hx] at h1; exact h1.elim
    | some x =>
      rw [hx] at h1
      have h1 : ∀ l' σ' H' G', SR X.K C0 l' rw1 σ' H' G' → wdOf X.mg Wx x σ' H' := h1
      refine ⟨by show 1 ≤ 1000; decide, fun a ha0 => ⟨a, C, v, rfl, T.o, T.no, upd_same, fun dx hd hne => ⟨rfl, dx, [(fl, v)], upd_same, by rw [upd_ne hne]; exact upd_same, ?_, ?_⟩⟩⟩
      · rw [upd_ne hne] at hd; exact hd
      · rw [upd_ne hne] at hd
        have eH : upd (del (upd (upd (upd H1 a (exo a C none)) dx (exd dx [(fl, v)])) a (exo a C (some dx))) a) dx (.xd [(fl, v)]) = upd H1 dx (.xd [(fl, v)]) := by
          funext b
          by_cases h1 : b = dx
          · subst h1; rw [upd_same, upd_same]
          · rw [upd_ne h1, upd_ne h1]
            by_cases h2 : b = a
            · subst h2; rw [del_same, ha0]
            · rw [del_ne h2, upd_ne h2, upd_ne h1, upd_ne h2]
        rw [eH]
        have S2 := S1.newO (o := .xd [(fl, v)]) hd
        exact h1 l σ _ _ S2 _ _ ((hmk d x _ _ _ v hx r2).2 dx _ upd_same)
  | [], _, h1 => exact h1.elim
  | _ :: _ :: _, _, h1 => exact h1.elim
end HD
end
section
/-! Readings of comprehensions that raise, and of try. -/
namespace HD
open PySem PySem.Spec L2
def mkText : D → Option Exn
  | .int n => some (.text n)
  | _ => none
def mkWeb : D → Option Exn
  | .str w => some (.web w)
  | _ => none
def mkLog : D → Option Exn
  | .int n => some (.log n)
  | _ => none
/-- as compL, but what is raised goes on -/
def compLX (tg : D → Dl → Option Dl) (c : EM Bool) (e : EM D) (l : Dl) : List D → Rw → R (List D × Rw)
  | [], rw => .ok ([], rw)
  | d :: ds, rw => match tg d l with
    | none => .stuck
    | some l1 => (c l1 rw).bind fun p => if p.1 = true then (e l1 p.2).bind fun q => (compLX tg c e l ds q.2).bind fun t => .ok (q.1 :: t.1, t.2) else compLX tg c e l ds p.2
def noAll (l : Dl) (vs : List Nat) : Bool := vs.all fun v => match l[v]? with
  | some .no => true
  | _ => false
def eCompX (g : EM (List D)) (tg : D → Dl → Option Dl) (c : EM Bool) (e : EM D) (vs : List Nat) : EM D := fun l rw => (g l rw).bind fun p => if p.1.length ≤ sizeLine ∧ noAll l vs = true then (compLX tg c e (wipeD l vs) p.1 p.2).bind fun q => .ok (.lst q.1, q.2) else .stuck
/-- try: return e / except: what h tells of the exception is handed back -/
def sTryH (g : EM D) (h : Exn → D) (ie io : Nat) : SM := fun l rw => match g l rw with
  | .ok p => .ok (.ret p.1, l, p.2)
  | .exc (.text n) w => if ie < l.length ∧ io < l.length then .ok (.ret (h (.text n)), l, w) else .stuck
  | _ => .stuck
def rowOf : Exn → D
  | .text n => .int n
  | _ => .non
section
variable (l : Dl) (rw : Rw)
@[simp] theorem sRaise_ap (mk : D → Option Exn) (g : EM (List D)) : sRaise mk g l rw = (g l rw).bind fun p => rzK mk p.1 p.2 := rfl
@[simp] theorem rzK_one (mk : D → Option Exn) (d : D) : rzK mk [d] rw = rz1 (mk d) rw := rfl
@[simp] theorem rz1_some (x : Exn) : rz1 (some x) rw = .exc x rw := rfl
@[simp] theorem mkText_int (n : Int) : mkText (.int n) = some (.text n) := rfl
@[simp] theorem eCompX_ap (g : EM (List D)) (tg : D → Dl → Option Dl) (c : EM Bool) (e : EM D) (vs : List Nat) : eCompX g tg c e vs l rw = (g l rw).bind fun p => if p.1.length ≤ sizeLine ∧ noAll l vs = true then (compLX tg c e (wipeD l vs) p.1 p.2).bind fun q => .ok (.lst q.1, q.2) else .stuck := rfl
end
end HD
end
section
/-! A list comprehension whose element may raise. -/
namespace PySem
open Sem (wp)
section
variable {M : Model} {A : Around} {E : Value → Shared → Prop} {s : Shared} {env : Env}
/-- what a comprehension's run is to reach: with the frame that an exception goes on in -/
def compEndX (M : Model) (A : Around) (E : Value → Shared → Prop) (Q : Value → Shared → Prop) (acc : Value) (C : Addr) (fr : Option Addr) (r : Result) (s' : Shared) : Prop :=
  match r with
  | .ok _ => ∃ m, s'.heap.Ns C m ∧ ∀ h', Heap.SameBut C s'.heap h' → Q acc { s' with heap := h' }
  | .error x => ∃ m, s'.heap.Ns C m ∧ ∀ h', Heap.SameBut C s'.heap h' → ∀ cenv : Env, cenv.frame = fr → wpAny M A (passOn "comprehension.variables-let-go" x cenv : Sem Value) (fun _ _ => False) E { s' with heap := h' }
theorem comp_endX {e : Expr} {scope : Scope} {pos : Pos} {newAcc first : Sem Value} {g : Comprehension} {gs : List Comprehension} {cl : List (Str × Addr)} {Q : Value → Shared → Prop}
    (hcl : clausesOf e = g :: gs) (hs : ∀ x, foldedSetIterable g.iter env x = pure x) (hclos : closureFor scope env = pure cl)
    (hkind : scope.kind = .function) (hnames : ∀ x ∈ scope.names, x.2 = .local → scope.names.lookup x.1 = some .local)
    (h : wpAny M A first (fun x s₁ => wpAny M A (pyIter x) (fun it s₂ => wpAny M A newAcc (fun acc s₃ =>
      wpAny M A (newFunctionEnv scope env.globals cl [] env.qual none .none (some env)) (fun cenv s₄ =>
        codeAny M A (.compStart e 0 it acc { cenv with scope := relabel scope env }) (compEndX M A E Q acc cenv.locals cenv.frame) s₄) E s₃) E s₂) E s₁) E s) :
    wpAny M A (comprehension e scope env pos newAcc false first none) Q E s := by
  unfold comprehension
  rw [hclos, hcl]
  refine wpAny_bind (wpAny_mono h (fun x s₁ h₁ => wpAny_bind (wpAny_standAt (wpAny_bind (wpAny_of_eq (hs x) (wpAny_bind (wpAny_holding (wpAny_mono h₁ (fun it s₂ h₂ =>
    wpAny_standIf (wpAny_bind (wpAny_mono h₂ (fun acc s₃ h₃ => wpAny_bind (wpAny_pure (wpAny_bind (wpAny_mono h₃ (fun cenv s₄ h₄ => ?_) fun _ _ z => z)))) fun _ _ z => z)))
      fun _ _ z => z))))))) fun _ _ z => z)
  dsimp only
  have hv : ∀ x ∈ (scope.names.filter fun x => (x.2 == .local || x.2 == .cell) && x.1 != (".0" : Str)).reverse, x.2 = .local →
      Env.kindOf { cenv with scope := relabel scope env } x.1 = some .local := fun x hx hl => lookup_relabel_local (hnames x (List.mem_filter.mp (List.mem_reverse.mp hx)).1 hl)
  refine wpAny_holding (wpAny_bind (wpAny_attempt (wpAny_holding (wpAny_run (codeAny_mono h₄ fun r s' hr => ?_)))))
  cases r with
  | ok f =>
    obtain ⟨m, hn, hr⟩ := hr
    exact wpAny_bind (wpAny_holding (wpAny_comp_letGo (cenv := { cenv with scope := relabel scope env }) hkind _ s' m hv hn fun h' m' _ hs' => wpAny_pure (hr h' hs')))
  | error x =>
    obtain ⟨m, hn, hr⟩ := hr
    exact wpAny_bind (wpAny_holding (wpAny_comp_letGo (cenv := { cenv with scope := relabel scope env }) hkind _ s' m hv hn fun h' m' _ hs' => wpAny_mono (hr h' hs' _ rfl) (fun _ _ f => f.elim) fun _ _ y => y))
end
end PySem
namespace L2
open PySem PySem.Spec PyProof.Rows
theorem note_frame {x : Value} {e1 e2 : Env} (h : e1.frame = e2.frame) : noteFrame x e1 = noteFrame x e2 := by
  unfold noteFrame PySem.frameOf
  rw [h]
section
variable {X : Cx} {pins pins' : List (Addr × Obj)} {σ σ' : St} {H3 H5 : Hp} {s3 s5 s6 : Shared} {W : WX} {scope : Scope} {ce : Env} {fp : List Addr} {xe : Value → Shared → Prop} {u : Value} {Q : Value → Shared → Prop} {acc : Value}
/-- what a call in a block's element lets out goes on in the def's own frame -/
theorem blk_out (I3 : Inv X pins σ H3 s3) (tk : Takes X W) (hs : X.stack = X.env :: X.outer) (hfr : X.env.frame = some X.env.locals) (f3 : ∀ b ∈ fp, FpOk X pins H3 b ∧ b < s3.heap.objs.size) (ceF : ce.frame = X.env.frame) (ceL : ce.locals = s3.heap.objs.size)
    (I5 : Inv ((X.blk s3 H3 scope ce fp).wish xe) pins' σ' H5 s5) (c : L2.CX X.prog X.w X.stack H5 s5 (fun cls d H' => W cls d σ H') u s6) :
    notedBy (model X.prog X.w) X.A ce (fun e s' => compEndX (model X.prog X.w) X.A X.xe Q acc s3.heap.objs.size X.env.frame (.error e) s') u s6 := by
  obtain ⟨a, B, H', cls, d, rfl, fl, hok, ub, na, os, ag, w⟩ := c
  obtain ⟨m, hn, _⟩ := I5.loc
  have hn : s5.heap.Ns s3.heap.objs.size m := by rw [← ceL]; exact hn
  have free5 : H5 s3.heap.objs.size = none := by rw [← ceL]; exact I5.free
  have frOf : ∀ b ∈ frs X.stack, b < s3.heap.objs.size := fun b hb => by
    obtain ⟨_, o, e, _⟩ := I3.stack.mem hb
    exact Heap.lt_size e
  have nfr : s3.heap.objs.size ∉ frs X.stack := fun hb => Nat.lt_irrefl _ (frOf _ hb)
  obtain ⟨oC, es, ep, hoC, _⟩ := id hn
  have hBC : B.get? s3.heap.objs.size = some oC := ub.keep _ _ hoC free5 nfr
  have hHC : H' s3.heap.objs.size = none := ub.free _ _ hoC free5
  generalize hC : s3.heap.objs.size = C at *
  have st6 : B.StaysIn s6.heap := fl.1
  have hA : X.A.frames = some (X.env :: X.outer) := by rw [I3.ok.frames, hs]
  rw [hs] at fl
  unfold notedBy
  rw [note_frame (e2 := X.env) ceF]
  refine HandSPX.looks_onZ Zc.steady hA hfr fl fun h7 held up7 => ?_
  refine ⟨m, hn.at fun o e => held.1 C o (ub.keep C o e free5 nfr), fun h8 sb cenv hcf => ?_⟩
  obtain ⟨st, hna, hff, oe, vs, T, oT, ts, he, hz, hd, h1, hnT, hTe, hT, hdT, hts⟩ := held
  have aC : a ≠ C := fun z => by rw [z, hBC] at hna; cases hna
  have TC : T ≠ C := fun z => by rw [z, hBC] at hnT; cases hnT
  have hid : ∀ b o, (PySem.W.hideAll B [C]).get? b = some o → B.get? b = some o ∧ b ≠ C := fun b o e => ⟨PySem.W.of_hideAll _ e, fun z => by rw [PySem.W.hideAll_none [C] (by rw [z]; simp)] at e; cases e⟩
  have hgt : ∀ b o, b ≠ C → B.get? b = some o → (PySem.W.hideAll B [C]).get? b = some o := fun b o hb e => PySem.W.hideAll_get _ e (by simpa using hb)
  have hnone : ∀ b, B.get? b = none → (PySem.W.hideAll B [C]).get? b = none := fun b e => by
    cases q : (PySem.W.hideAll B [C]).get? b with
    | none => rfl
    | some o => have z := (hid b o q).1; rw [e] at z; cases z
  have ff8 : ∀ l : List Env, (∀ b ∈ frs l, b ≠ C) → h7.FunFrames B l → h8.FunFrames (PySem.W.hideAll B [C]) l := by
    intro l
    induction l with
    | nil => intro _ _; trivial
    | cons e l ih =>
      intro hl hh
      obtain ⟨hk, ⟨L, o, hf, hb, ho, hdd⟩, hr⟩ := hh
      have hm : L ∈ frs (e :: l) := List.mem_filterMap.mpr ⟨e, List.mem_cons_self, hf⟩
      refine ⟨hk, ⟨L, o, hf, hnone L hb, (sb.2 L (hl L hm)).trans ho, hdd⟩, ih (fun b hb => hl b ?_) hr⟩
      obtain ⟨e', he', q⟩ := List.mem_filterMap.mp hb
      exact List.mem_filterMap.mpr ⟨e', List.mem_cons_of_mem _ he', q⟩
  have held8 : HandSPX.HeldZ (PySem.W.hideAll B [C]) (X.env :: X.outer) a (Zc cls d) X.env.locals h8 :=
    ⟨fun b o e => (sb.2 b (hid b o e).2).trans (st b o (hid b o e).1), hnone a hna, ff8 _ (fun b hb z => by subst z; exact nfr (hs ▸ hb)) hff, oe, vs, T, oT, ts, (sb.2 a aC).trans he, hz, hd, h1, hnone T hnT, hTe, (sb.2 T TC).trans hT, hdT, hts⟩
  unfold PySem.passOn
  refine wpAny_bind (wpAny_field ((sb.2 a aC).trans he) hd h1 ?_)
  rw [if_neg (by simp)]
  rw [hcf, hfr]
  refine wpAny_bind (HandSPX.setFlight_onZ held8 fun h9 held9 up9 => wpAny_throw ?_)
  -- the state without the exception
  obtain ⟨G, g1, g2⟩ := restrict s6.heap fun b => ((B.get? b).isSome || decide (b ∈ frs X.stack)) && decide (b ≠ C)
  have gB : ∀ b o, (PySem.W.hideAll B [C]).get? b = some o → G.get? b = some o := fun b o e => by
    obtain ⟨e1, e2⟩ := hid b o e
    rw [g1 b (by simp [e1, e2])]
    exact st6 b o e1
  have gF : ∀ b, b ∈ frs X.stack → G.get? b = s6.heap.get? b := fun b hb => g1 b (by
    have : b ≠ C := fun z => by subst z; exact nfr hb
    simp [hb, this])
  have og : ∀ b o, G.get? b = some o → s6.heap.get? b = some o ∧ ((B.get? b).isSome = true ∨ b ∈ frs X.stack) ∧ b ≠ C := fun b o e => by
    cases q : (((B.get? b).isSome || decide (b ∈ frs X.stack)) && decide (b ≠ C)) with
    | false => rw [g2 b q] at e; cases e
    | true =>
      rw [g1 b q] at e
      simp only [Bool.and_eq_true, Bool.or_eq_true, decide_eq_true_eq] at q
      exact ⟨e, q.1, q.2⟩
  have old : ∀ b o, s3.heap.get? b = some o → b ≠ C := fun b o e z => by
    have := Heap.lt_size e
    rw [hC, z] at this
    exact Nat.lt_irrefl _ this
  have b5 := I5.base
  have hokG : HOk X.prog X.w H' G := fun b o q => (hok b o q).stay (fun b' v hb' e => gB b' v (hgt b' v (fun z => by
    rcases hb' with hb' | hb'
    · rw [← hb', z, hHC] at q; cases q
    · rw [z, hHC] at hb'; cases hb') e)) (fun _ z => z) fun _ _ z => z
  have IG : Inv X pins σ H' { s6 with heap := G } := by
    refine I3.call' (s' := { s6 with heap := G }) (ch := fp) (os.trans I5.os) ⟨fun b o e n hb hf => ?_, fun b o e n hb hf => ?_, fun b o e n hf => ?_, fun b o e hf => ?_, fun b xs e => ub.tups _ _ (b5.tups _ _ e), fun b o xs e => ub.frzs _ _ _ (b5.frzs _ _ _ e), fun b ps e => ?_⟩ hokG ag fun b hb =>
      ⟨(f3 b hb).1.2.2.2.1, (f3 b hb).1.2.1, (f3 b hb).1.2.2.2.2.1, (f3 b hb).1.2.2.2.2.2⟩
    · exact gB b o (hgt b o (old b o e) (ub.keep b o (b5.keep b o e n hb hf) (b5.free b o e n hf) hb))
    · obtain ⟨sl1, e1⟩ := b5.slot b o e n hb hf
      obtain ⟨sl2, e2⟩ := ub.slot b _ e1 hb
      exact ⟨sl2, by rw [gF b hb]; exact e2⟩
    · obtain ⟨o1, e1⟩ := b5.there b o e hf
      exact ub.free b o1 e1 (b5.free b o e n hf)
    · obtain ⟨o1, e1⟩ := b5.there b o e hf
      by_cases hb : b ∈ frs X.stack
      · obtain ⟨sl2, e2⟩ := ub.slot b _ e1 hb
        exact ⟨_, by rw [gF b hb]; exact e2⟩
      · obtain ⟨o2, e2⟩ := ub.there b o1 e1 hb
        exact ⟨o2, gB b o2 (hgt b o2 (old b o e) e2)⟩
    · obtain ⟨m1, e1⟩ := b5.tbls b ps e
      obtain ⟨m2, e2⟩ := ub.tbls b _ e1
      exact ⟨m1 ++ m2, by rw [e2, Array.append_assoc]⟩
  refine tk _ _ ⟨a, PySem.W.hideAll B [C], { s6 with heap := G }, pins, σ, H', cls, d, rfl, IG, fun b o e hb => ?_, fun b o e hnf => ?_, by rw [hs]; exact .inr (.inr held9), na, rfl, ag, w⟩
  · obtain ⟨e', h, hne⟩ := og b o e
    rcases h with h | h
    · obtain ⟨o', q⟩ := Option.isSome_iff_exists.mp h
      have z := st6 b o' q
      rw [e'] at z; cases z
      exact hgt b _ hne q
    · exact absurd h hb
  · obtain ⟨e', _, hne⟩ := og b o e
    obtain ⟨sl1, e1⟩ := up7 b o e' hnf
    obtain ⟨sl2, e2⟩ := up9 b _ ((sb.2 b hne).trans e1) hnf
    exact ⟨sl2, e2⟩
end
end L2
namespace L2
open PySem PySem.Spec PyProof.Rows
section
variable {X : Cx}
/-- as tLc, without tests; the element may let out what is wished with the def's own slots -/
def tLcX (wi : TI) (g : TG) (te : St → TE) (vs : List Nat) : TE := fun σ H Q => wi σ H fun J H1 => ∀ D, H1 D = none → ∃ Z : Nat → Nat → Hp → Prop, (∃ m, Z 0 m (upd H1 D (.lst []))) ∧ ∀ i m H, Z i m H →
  (J.stop i H ∧ Q (.ref D) H) ∨ (J.go i H ∧ ∃ Nx : Hp → Prop, (∀ H', Nx H' → ∃ m', m' < m ∧ Z (i + 1) m' H') ∧ ∀ x H', J.yld i H x H' → g x (wipe σ vs) H' fun σ2 H2 => wipe σ2 vs = wipe σ vs ∧ te σ σ2 H2 fun y H4 => ∃ acc, H4 D = some (.lst acc) ∧ acc.length < sizeLine ∧ Nx (upd H4 D (.lst (acc ++ [y]))))
theorem pe_lcX {elt tg iter : Expr} {scope : Scope} {own : List (Str × Nat)} {pos : Pos} {wi : TI} {g : TG} {te : St → TE} {W : WX} (tk : Takes X W) (hst : X.stack = X.env :: X.outer) (hfr : X.env.frame = some X.env.locals) (hc : X.calm = true) (hN : X.N.Nodup) (hi : PI X tg iter wi) (ok : BlkOk X.N X.env.scope scope own)
    (hg : ∀ (s : Shared) (H : Hp) (C : Addr) (cl : List (Str × Addr)) (fp : List Addr), PG (X.blk s H scope (compEnvC scope cl C X.env) fp) tg g)
    (he : ∀ (σ0 : St) (s : Shared) (H : Hp) (C : Addr) (cl : List (Str × Addr)) (fp : List Addr) (xe : Value → Shared → Prop), (∀ σ', PassesAt (L2.CX X.prog X.w) ((X.blk s H scope (compEnvC scope cl C X.env) fp).wish xe) σ' (fun cls d H' => W cls d σ0 H')) → PE ((X.blk s H scope (compEnvC scope cl C X.env) fp).wish xe) elt (te σ0))
    (hs : ∀ x, foldedSetIterable iter X.env x = pure x := by intro _; rfl) :
    PE X (.ListComp elt [⟨tg, iter, [], 0⟩] scope pos) (tLcX wi g te (own.map (·.2))) := by
  refine ⟨fun pins s σ H Q I h => ?_⟩
  rw [eval_ListComp]
  have hfree : ∀ y ∈ scope.names, y.2 = .free → ∃ c, X.env.cells.lookup y.1 = some c := fun y hy e => I.ok.has _ ((ok.free y hy e).imp id id)
  refine comp_endX rfl hs (closure_ok hfree) ok.kind (fun y hy e => by rw [ok.uniq y hy, e]) (thn (hi.run pins s σ H _ I h) fun xv s1 hx => thn hx fun itv s2 h2 => ?_)
  obtain ⟨it, fp, tn, J, H2, rfl, I2, T, st2, f2, q⟩ := h2
  refine wpAny_newObj_type (newEnv_comp ?_) (by show 0 ≤ sizeLine; decide)
  generalize hD : s2.heap.objs.size = D
  have hDn : H2 D = none := I2.hok.fresh (Nat.le_of_eq hD)
  obtain ⟨Z, ⟨m0, z0⟩, turn⟩ := q D hDn
  -- the new list is there
  obtain ⟨s3, hs3⟩ : ∃ s3 : Shared, s3 = { s2 with heap := s2.heap.push { cls := .type "list", data := .seq ([] : List Value).toArray } } := ⟨_, rfl⟩
  have h3 : s3.heap = s2.heap.push { cls := .type "list", data := .seq ([] : List Value).toArray } := by rw [hs3]
  have I3 : Inv X pins σ (upd H2 D (.lst [])) s3 := by
    rw [hs3]
    exact I2.laid (t' := s2.toks) (fun b o e => Heap.get?_push_of_some _ e) (Nat.le_of_eq hD) ⟨Nat.zero_le _, [], 0, .nil, by rw [← hD]; exact Heap.get?_push_size _ rfl⟩
  have f3 : ∀ b ∈ fp, FpOk X pins (upd H2 D (.lst [])) b ∧ b < s3.heap.objs.size := fun b hb => by
    obtain ⟨o, e, _⟩ := T.obj _ _ st2 b hb
    have hlt := Heap.lt_size e
    refine ⟨⟨?_, (f2 b hb).2⟩, by rw [h3, Heap.size_push]; exact Nat.lt_succ_of_lt hlt⟩
    rw [upd_ne (by rw [← hD]; exact Nat.ne_of_lt hlt)]
    exact (f2 b hb).1
  have st3 : tn 0 s3.heap := T.keep _ _ _ st2 fun b _ o e => by rw [h3]; exact Heap.get?_push_of_some _ e
  have I4 := block_start I3 ok hN f3
  rw [← hs3]
  have pg := hg s3 (upd H2 D (.lst [])) s3.heap.objs.size (cellsFrom (s3.heap.objs.size + 1) scope.names (cloFrom X.env.cells scope.names [])) fp
  have pe := he σ s3 (upd H2 D (.lst [])) s3.heap.objs.size (cellsFrom (s3.heap.objs.size + 1) scope.names (cloFrom X.env.cells scope.names [])) fp
  show codeAny _ _ (.compStart (.ListComp elt [⟨tg, iter, [], 0⟩] scope pos) 0 (.ref it) (.ref D) (compEnvC scope (cellsFrom (s3.heap.objs.size + 1) scope.names (cloFrom X.env.cells scope.names [])) s3.heap.objs.size X.env)) (compEndX (model X.prog X.w) X.A X.xe (EP X pins σ Q) (.ref D) s3.heap.objs.size X.env.frame) { s3 with heap := pushCells (s3.heap.push { cls := .type "dict", data := .dict #[] }) scope.names }
  generalize hce : compEnvC scope (cellsFrom (s3.heap.objs.size + 1) scope.names (cloFrom X.env.cells scope.names [])) s3.heap.objs.size X.env = ce at I4 pg pe ⊢
  have cL : ce.locals = s3.heap.objs.size := by subst hce; rfl
  have cF : ce.frame = X.env.frame := by subst hce; rfl
  generalize hH3 : upd H2 D (.lst []) = H3 at I3 I4 pg pe z0 f3
  generalize hs4 : ({ s3 with heap := pushCells (s3.heap.push { cls := .type "dict", data := .dict #[] }) scope.names } : Shared) = s4 at I4 ⊢
  have st4 : tn 0 s4.heap := T.keep _ _ _ st3 fun b _ o e => by rw [← hs4]; exact pushCells_keeps _ _ _ _ (Heap.get?_push_of_some _ e)
  have stat : ∀ {σ' : St} {H' : Hp} {s' : Shared}, Inv (X.blk s3 H3 scope ce fp) [] σ' H' s' → (∀ b ∈ fp, H' b = none) → ∀ b ∈ fp, FpOk (X.blk s3 H3 scope ce fp) [] H' b := fun {σ' H' s'} I' hn b hb =>
    ⟨hn b hb, (I'.ok.exf b hb).1, I'.ok.exfs b hb, .inl hb, fun x c e => (I'.ok.exf b hb).2 x c e, fun p hp => absurd (show p ∈ ([] : List (Addr × Obj)) ++ [] from hp) (by simp)⟩
  have pe := pe (notedBy (model X.prog X.w) X.A ce fun e s' => compEndX (model X.prog X.w) X.A X.xe (EP X pins σ Q) (.ref D) s3.heap.objs.size X.env.frame (.error e) s') fun σ' pins' H5 s5 e s6 I5 c => blk_out I3 tk hst hfr f3 cF cL I5 c
  have loop : codeAny (model X.prog X.w) X.A (.compLoop (.ListComp elt [⟨tg, iter, [], 0⟩] scope pos) 0 (.ref it) (.ref D) ce) (compEndX (model X.prog X.w) X.A X.xe (EP X pins σ Q) (.ref D) s3.heap.objs.size X.env.frame) s4 := by
    refine compLoop_any (fun n s' => ∃ i H', Inv (X.blk s3 H3 scope ce fp) [] (wipe σ (own.map (·.2))) H' s' ∧ tn i s'.heap ∧ (∀ b ∈ fp, H' b = none) ∧ Z i n H') ?_ m0 ⟨0, H3, I4, st4, fun b hb => (f3 b hb).1.1, z0⟩
    rintro n s5 ⟨i, H5, I5, st5, n5, z5⟩
    rcases turn i n H5 z5 with ⟨stop, qq⟩ | ⟨go, Nx, hNx, step⟩
    · refine thnF (T.done (X.blk s3 H3 scope ce fp) rfl rfl rfl hc i [] s5 _ H5 (fun _ _ => False) I5 (stat I5 n5) st5 stop) fun r s6 ⟨hr, I6⟩ => ?_
      subst hr
      have I7 : Inv X pins σ H5 s6 := I3.call' (ch := fp) I6.os I6.base I6.hok I6.bare fun b hb => ⟨(f3 b hb).1.2.2.2.1, (f3 b hb).1.2.1, (f3 b hb).1.2.2.2.2.1, (f3 b hb).1.2.2.2.2.2⟩
      have nC : H5 s3.heap.objs.size = none := by rw [← cL]; exact I6.free
      obtain ⟨m, hn, _⟩ := I6.loc
      have hn : s6.heap.Ns s3.heap.objs.size m := by rw [← cL]; exact hn
      obtain ⟨k0, k1, k2, k3, k4, k5⟩ := I3.fpOk (Nat.le_refl _) nC
      exact ⟨m, hn, fun h' sb => ⟨.ref D, H5, I7.turned (t' := s6.toks) (fun b o hb e => (sb.2 b hb).trans e) k0 k1 k3 k4 k5, rfl, qq⟩⟩
    · refine thnF (T.item (X.blk s3 H3 scope ce fp) rfl rfl rfl hc i [] s5 _ H5 (fun _ _ => False) I5 (stat I5 n5) st5 go) fun r s6 ⟨u, hr, h6⟩ => ?_
      subst hr
      refine thnF h6 fun _ s7 ⟨x, H7, I7, r7, y7, st7, n7⟩ => ?_
      have I7' := I7.pinned (stat I7 n7) (T.obj _ _ st7)
      refine thnF (pg.run _ s7 _ H7 x u _ I7' r7 (step x H7 y7)) fun _ s8 ⟨σ8, H8, I8, hw8, q8⟩ => ?_
      refine thnF (Q := fun b s' => b = true ∧ s' = s8) (wpAny_tests_nil ⟨rfl, rfl⟩) fun b s9 hb => ?_
      obtain ⟨rfl, rfl⟩ := hb
      rw [if_pos rfl]
      refine wpAny_mono (pe.run _ s9 σ8 H8 _ (I8.wish _) q8) (fun z s10 ⟨yv, H10, I10, r10, acc, hD10, hz10, nx⟩ => ?_) fun _ _ z => z
      refine app_ok (X := X.blk s3 H3 scope ce fp) I10.unwish hD10 hz10 r10 fun s11 I11 => ?_
      obtain ⟨m', hm, w'⟩ := hNx _ nx
      have pin' : ∀ b ∈ fp, ∀ o, s7.heap.get? b = some o → s11.heap.get? b = some o ∧ (upd H10 D (.lst (acc ++ [yv]))) b = none := fun b hb o e =>
        let z := I11.pin (b, o) (List.mem_append_right _ (List.mem_append_right _ (mem_pinsAt hb e)))
        ⟨z.1, z.2.1⟩
      have hl : (wipe σ (own.map (·.2))).length = σ8.length := by rw [← hw8, wipe_length]
      refine ⟨m', hm, i + 1, _, (I11.unpinned (pins := [])).weak hl (fun j v e => by rw [← hw8] at e; exact (wipe_some e).1), T.keep _ _ _ st7 fun b hb o e => (pin' b hb o e).1, fun b hb => ?_, w'⟩
      obtain ⟨o, e, _⟩ := T.obj _ _ st7 b hb
      exact (pin' b hb o e).2
  exact codeAny_compStart_list loop (T.self X.A 0 _ _ _ st4 loop)
end
end L2
end
section
/-! The data layer: [elt for x in xs], elt may raise. -/
namespace HD
open PySem PySem.Spec L2
open PyProof.Rows hiding St
section
variable {K : PySem.W.Frag} {C : C0} {l l' : Dl} {w : Rw} {σ σ' : St} {H G : Hp}
theorem SR.backNo {j : Nat} (S : SR K C l' w σ' H G) (hl : l'.length = l.length) (hs : σ.length = σ'.length) (h : ∀ k, k ≠ j → l'[k]? = l[k]? ∧ σ'[k]? = σ[k]?) (hj : l[j]? = some .no) : SR K C l w σ H G := by
  refine ⟨S.sub, S.fr, S.ft, S.tabs, S.g0, S.gn, S.gt, by rw [hs, S.len, hl], fun k x e => ?_, fun a b d e p hab ha hb h1 => ?_, S.row⟩
  · by_cases hk : k = j
    · subst hk
      rw [hj] at e
      cases e
      have : k < σ.length := by rw [hs, S.len, hl]; exact (List.getElem?_eq_some_iff.mp hj).1
      exact ⟨σ[k], List.getElem?_eq_getElem this, trivial⟩
    · obtain ⟨e1, e2⟩ := h k hk
      obtain ⟨v, a, b⟩ := S.sl k x (e1.trans e)
      exact ⟨v, e2.symm.trans a, b⟩
  · have na : a ≠ j := fun z => by subst z; rw [hj] at ha; cases ha
    have nb : b ≠ j := fun z => by subst z; rw [hj] at hb; cases hb
    rw [← (h b nb).2]
    exact S.ow a b d e p hab ((h a na).1.trans ha) ((h b nb).1.trans hb) (by rw [(h a na).2]; exact h1)
end
section
variable {X : Cx}
theorem redLcX {g : EM (List D)} {j : Nat} {e : EM D} {Wx : WX} :
    ∀ σ H Q, tO X.K (wdOf X.mg Wx) (eCompX g (gN j) cYes e [j]) σ H Q → tLcX (tI X.K (wdOf X.mg Wx) g) (tG X.K [j] (gN j)) (fun σ0 => tD X.K (wdOf X.mg fun cls d _ H => Wx cls d σ0 H) e) [j] σ H Q := by
  intro σ H Q hq
  obtain ⟨C, l, rw, G, S, hp⟩ := hq
  refine seqI (P := POq X.K (wdOf X.mg Wx) C l σ H G Q) S hp (fun _ _ z => z) (fun z => z) fun ds rw1 J H1 G1 S1 s1 wd h1 => ?_
  dsimp only [POq] at h1
  by_cases hz : ds.length ≤ sizeLine ∧ noAll l [j] = true
  case neg => rw [if_neg hz] at h1; exact h1.elim
  rw [if_pos hz] at h1
  obtain ⟨hz, hno⟩ := hz
  have hlj : l[j]? = some .no := by
    unfold noAll at hno
    simp only [List.all_cons, List.all_nil, Bool.and_true] at hno
    split at hno
    · assumption
    · cases hno
  intro D hD
  obtain ⟨hD0, hDr⟩ := S1.h0none hD
  have hDG := S1.gnone hD
  have HD0 : H D = none := by
    cases q : H D with
    | none => rfl
    | some o => obtain ⟨o', z⟩ := s1.t _ _ q; rw [hD] at z; cases z
  refine ⟨fun i m H2 => m = ds.length - i ∧ i ≤ ds.length ∧ ∃ rw2 G2 acc done, RowOk X.K C.r rw2 H2 G2 ∧ Gr X.K C.r H1 G1 H2 G2 ∧ G2 D = none ∧ H2 D = some (.lst acc) ∧ acc.length ≤ i ∧ Reps X.K C.r G2 done acc ∧
    OPost X.K (wdOf X.mg Wx) C l σ H G ((compLX (gN j) cYes e (wipeD l [j]) (ds.drop i) rw2).bind fun q => .ok (.lst (done ++ q.1), q.2)) Q, ⟨ds.length, rfl, Nat.zero_le _, rw1, G1, [], [], ?_, Gr.newO S1.sub hD, hDG, upd_same, Nat.le_refl _, Reps.nil, ?_⟩, ?_⟩
  · exact (S1.newO (o := .lst []) hD).row
  · rw [List.drop_zero]; exact h1
  rintro i m H2 ⟨rfl, hi, rw2, G2, acc, done, w2, g2, hDG2, hD2, ha, hr, h2⟩
  have S2 : SR X.K C l rw2 σ H2 G2 := S1.grow g2 w2
  have sub2 : Same G1 H2 := g2.g.trans S2.sub
  by_cases hlt : i < ds.length
  · refine .inr ⟨wd.go i H2 sub2 hlt, ?_⟩
    have hd : ds.drop i = ds[i] :: ds.drop (i + 1) := List.drop_eq_getElem_cons hlt
    rw [hd] at h2
    unfold compLX at h2
    dsimp only [gN] at h2
    refine ⟨fun H' => ∃ rw2 G2 acc done, RowOk X.K C.r rw2 H' G2 ∧ Gr X.K C.r H1 G1 H' G2 ∧ G2 D = none ∧ H' D = some (.lst acc) ∧ acc.length ≤ i + 1 ∧ Reps X.K C.r G2 done acc ∧
      OPost X.K (wdOf X.mg Wx) C l σ H G ((compLX (gN j) cYes e (wipeD l [j]) (ds.drop (i + 1)) rw2).bind fun q => .ok (.lst (done ++ q.1), q.2)) Q, fun H' hN => ⟨_, by omega, rfl, hlt, hN⟩, fun x H' y => ?_⟩
    obtain ⟨ey, r⟩ := wd.yld i H2 x H' sub2 y _ (List.getElem?_eq_getElem hlt)
    subst ey
    have S2w := S2.wiped [j]
    refine ⟨C, wipeD l [j], rw2, G2, ds[i], (wipeD l [j]).set j (.val ds[i]), S2w, r.mono g2.g, rfl, fun σ' S' wj => ?_⟩
    have wj : wipe σ' [j] = wipe (wipe σ [j]) [j] := wj [j] fun k hk => hk
    have w1 : wipe (wipe σ [j]) [j] = wipe σ [j] := by show (σ.set j none).set j none = σ.set j none; rw [List.set_set]
    refine ⟨wj.trans w1, C, _, rw2, G2, S', ?_⟩
    have GRD : ∀ {H3 G3 : Hp}, Gr X.K C.r H' G2 H3 G3 → H3 D = some (.lst acc) ∧ G3 D = none := fun {H3 G3} g3 => by
      refine ⟨g3.h _ _ hD2 hDr nTb_lst, ?_⟩
      cases z : G3 D with
      | none => rfl
      | some o =>
        rcases g3.n _ _ z with z | ⟨z, _⟩
        · rw [hDG2] at z; cases z
        · rw [hD2] at z; cases z
    replace h2 : OPost X.K (wdOf X.mg Wx) C l σ H G (((e ((wipeD l [j]).set j (.val ds[i])) rw2).bind fun q => (compLX (gN j) cYes e (wipeD l [j]) (ds.drop (i + 1)) q.2).bind fun t => .ok (q.1 :: t.1, t.2)).bind fun q => .ok (.lst (done ++ q.1), q.2)) Q := h2
    cases e2 : e ((wipeD l [j]).set j (.val ds[i])) rw2 with
    | stuck => rw [e2] at h2; exact h2.elim
    | exc x w =>
      rw [e2] at h2
      intro H4 G4 S4 cls d hx
      have hsl : ∀ k, k ≠ j → σ'[k]? = σ[k]? := fun k hk => by
        have := congrArg (fun t : St => t[k]?) (wj.trans w1)
        have z : (σ'.set j none)[k]? = (σ.set j none)[k]? := this
        rwa [List.getElem?_set_ne (Ne.symm hk), List.getElem?_set_ne (Ne.symm hk)] at z
      have S5 : SR X.K C l w σ H4 G4 := S4.backNo (j := j) (by show ((l.set j .no).set j _).length = _; rw [List.length_set, List.length_set]) (by
        have := congrArg List.length (wj.trans w1)
        rw [wipe_length, wipe_length] at this
        exact this.symm) (fun k hk => ⟨by show ((l.set j .no).set j _)[k]? = _; rw [List.getElem?_set_ne (Ne.symm hk), List.getElem?_set_ne (Ne.symm hk)], hsl k hk⟩) hlj
      exact h2 H4 G4 S5 cls d hx
    | ok p =>
      obtain ⟨d, rw4⟩ := p
      rw [e2] at h2
      intro v H4 G4 S4 g4 r4
      obtain ⟨hD4, hDG4⟩ := GRD g4
      refine ⟨acc, hD4, by omega, rw4, G4, acc ++ [v], done ++ [d], S4.row.updNe hDr, Gr.mutN (g2.trans g4) hD ⟨_, hD4⟩ hDG4, hDG4, upd_same, by simp; omega, (hr.mono g4.g).append (Reps.cons r4 Reps.nil), ?_⟩
      have : (((R.ok (d, rw4)).bind fun q => (compLX (gN j) cYes e (wipeD l [j]) (ds.drop (i + 1)) q.2).bind fun t => .ok (q.1 :: t.1, t.2)).bind fun q => R.ok (_root_.HD.D.lst (done ++ q.1), q.2)) = (compLX (gN j) cYes e (wipeD l [j]) (ds.drop (i + 1)) rw4).bind fun q => .ok (.lst (done ++ [d] ++ q.1), q.2) := by
        show ((compLX (gN j) cYes e (wipeD l [j]) (ds.drop (i + 1)) rw4).bind fun t => R.ok (d :: t.1, t.2)).bind _ = _
        cases compLX (gN j) cYes e (wipeD l [j]) (ds.drop (i + 1)) rw4 with
        | ok p => simp [R.bind]
        | exc x w => rfl
        | stuck => rfl
      rw [← this]
      exact h2
  · have ei : i = ds.length := by omega
    subst ei
    rw [List.drop_length] at h2
    refine .inl ⟨wd.stop _ H2 sub2 (Nat.le_refl _), ?_⟩
    replace h2 : OPost X.K (wdOf X.mg Wx) C l σ H G (.ok (.lst (done ++ []), rw2)) Q := h2
    rw [List.append_nil] at h2
    exact h2 D H2 G2 S2 (s1.trans g2) HD0 ⟨D, rfl, hDG2, hD0, hDr, acc, hD2, by omega, hr⟩
end
end HD
end
section
/-! The data layer: calls that may raise, raising comprehensions, try. -/
namespace HD
open PySem PySem.Spec L2
open PyProof.Rows hiding St
section
variable {X : Cx} {Wx : WX} {k : Nat} {f : Addr} {fd : FuncData} {ps : List Str} {F : FD} {x : Str} {p pos : Pos} {e : Expr} {es : List Expr} {g : EM (List D)}
/-- as deX_call, by what the context does with an exception of a call -/
theorem deX_callP (Fo : FnOk X.prog X.w X.K X.mg X.base (L2.CX X.prog X.w) k f fd ps (spD X.K false (xwL X.mg) F)) (hr : Room k X.A) (hg : Gl X x) (hm : X.mg x = some (.ref f)) (hk : PySem.W.keepIn X.K (.ref f) = true) (hb : Binds X.K fd ps []) (hx : ∀ σ, PassesAt (L2.CX X.prog X.w) X σ (WE Wx σ))
    (ha : DA X (wdOf X.mg Wx) (e :: es) g) (hdb : (x == ("__debug__" : Str)) = false := by decide) (he : starEach (e :: es) X.env = (false, eval e X.env) :: starEach es X.env := by rfl) (hpl : (backTo pos (starEach es X.env)).any (·.1) = false := by rfl) :
    DE X (wdOf X.mg Wx) (.Call (.Name x p) (e :: es) [] pos) (eCall F g) := pe_imp (pe_callS Fo hr hg hm hk hb hx ha hdb he hpl) redCallS
/-- what the head tells of a def that may raise -/
structure CalX (P : Program) (w : World) (K : PySem.W.Frag) (mg : Str → Option Value) (base : Heap) (x : Str) (k : Nat) (ps : List Str) (F : FD) : Prop where
  ex : ∃ (a : Addr) (fd : FuncData), FnOk P w K mg base (L2.CX P w) k a fd ps (spD K false (xwL mg) F) ∧ mg x = some (.ref a) ∧ PySem.W.keepIn K (.ref a) = true ∧ Binds K fd ps []
theorem CalX.deP {k : Nat} {ps : List Str} {F : FD} {g : EM (List D)} {x : Str} {p pos : Pos} {e : Expr} {es : List Expr} (Cc : CalX X.prog X.w X.K X.mg X.base x k ps F) (hx : ∀ σ, PassesAt (L2.CX X.prog X.w) X σ (WE Wx σ)) (hr : Room k X.A) (hg : Gl X x)
    (ha : DA X (wdOf X.mg Wx) (e :: es) g) (hdb : (x == ("__debug__" : Str)) = false := by decide) (he : starEach (e :: es) X.env = (false, eval e X.env) :: starEach es X.env := by rfl) (hpl : (backTo pos (starEach es X.env)).any (·.1) = false := by rfl) :
    DE X (wdOf X.mg Wx) (.Call (.Name x p) (e :: es) [] pos) (eCall F g) := by
  obtain ⟨a, fd, Fo, hm, hk, hb⟩ := Cc.ex
  exact deX_callP Fo hr hg hm hk hb hx ha hdb he hpl
theorem CalX.de {k : Nat} {ps : List Str} {F : FD} {g : EM (List D)} {x : Str} {p pos : Pos} {e : Expr} {es : List Expr} (Cc : CalX X.prog X.w X.K X.mg X.base x k ps F) (tk : Takes X Wx) (hr : Room k X.A) (hg : Gl X x)
    (ha : DA X (wdOf X.mg Wx) (e :: es) g) (hdb : (x == ("__debug__" : Str)) = false := by decide) (he : starEach (e :: es) X.env = (false, eval e X.env) :: starEach es X.env := by rfl) (hpl : (backTo pos (starEach es X.env)).any (·.1) = false := by rfl) :
    DE X (wdOf X.mg Wx) (.Call (.Name x p) (e :: es) [] pos) (eCall F g) := Cc.deP (fun σ => passAt tk σ) hr hg ha hdb he hpl
end
section
variable {X : Cx} {Wx : WX}
/-- [elt for x in xs], elt may raise -/
theorem do_lcX {elt tgt iter : Expr} {scope : Scope} {nm : Str} {j : Nat} {pos : Pos} {g : EM (List D)} {e : EM D} (tk : Takes X Wx) (hst : X.stack = X.env :: X.outer) (hfr : X.env.frame = some X.env.locals) (hc : X.calm = true) (hN : X.N.Nodup) (hi : DI X (wdOf X.mg Wx) tgt iter g) (ok : BlkOk X.N X.env.scope scope [(nm, j)])
    (hg : ∀ (s : Shared) (H : Hp) (Cc : Addr) (cl : List (Str × Addr)) (fp : List Addr), DG (X.blk s H scope (compEnvC scope cl Cc X.env) fp) tgt [j] (gN j))
    (he : ∀ (σ0 : St) (s : Shared) (H : Hp) (Cc : Addr) (cl : List (Str × Addr)) (fp : List Addr) (xe : Value → Shared → Prop), (∀ σ', PassesAt (L2.CX X.prog X.w) ((X.blk s H scope (compEnvC scope cl Cc X.env) fp).wish xe) σ' (WE (fun cls d _ H' => Wx cls d σ0 H') σ')) → DE ((X.blk s H scope (compEnvC scope cl Cc X.env) fp).wish xe) (wdOf X.mg fun cls d _ H' => Wx cls d σ0 H') elt e)
    (hs : ∀ x, foldedSetIterable iter X.env x = pure x := by intro _; rfl) :
    DO X (wdOf X.mg Wx) (.ListComp elt [⟨tgt, iter, [], 0⟩] scope pos) (eCompX g (gN j) cYes e [j]) :=
  pe_imp (pe_lcX (own := [(nm, j)]) (te := fun σ0 => tD X.K (wdOf X.mg fun cls d _ H' => Wx cls d σ0 H') e) tk hst hfr hc hN hi ok hg (fun σ0 s H Cc cl fp xe h => he σ0 s H Cc cl fp xe h) hs) redLcX
end
end HD
end
section
/-! The data layer: what the head asks of an exception class, as a test on the written part. -/
namespace HD
open PySem PySem.Spec L2
open PyProof.Rows hiding St
def clsB (K : PySem.W.Frag) (C : Addr) : Bool := match K.lookup C with
  | some ⟨.type "type", _, .cls cd, sl⟩ => (match cd.mro, sl.toList with
    | .ref C' :: bm, [_, _, _, _, some (.builtin n), _] => C' == C && n == "ValueError.__new__" && !cd.hasDel && cd.hasDict && PySem.HandSPX.refsVE bm
    | _, _ => false)
  | _ => false
theorem clsB_ok {K : PySem.W.Frag} {C : Addr} (q : clsB K C = true) : ∃ nm q N bs bm sn sub ab col dd k0 k1 k2 k3 k5, K.lookup C = some (excClassObj nm q C N bs bm true sn sub ab col dd k0 k1 k2 k3 k5 "ValueError.__new__") ∧ PySem.HandSPX.refsVE bm = true := by
  unfold clsB at q
  split at q
  · rename_i dd cd sl ho
    split at q
    · rename_i C' bm k0 k1 k2 k3 n k5 hm hs
      simp only [Bool.and_eq_true, beq_iff_eq, Bool.not_eq_true'] at q
      obtain ⟨⟨⟨⟨rfl, rfl⟩, hdel⟩, hdi⟩, hv⟩ := q
      obtain ⟨nm, bs, mro, ns, qn, hd, sn, sub, ab, col, del⟩ := cd
      dsimp only at hm hdel hdi
      subst hm hdel hdi
      have hsl : sl = #[k0, k1, k2, k3, some (.builtin "ValueError.__new__"), k5] := by
        obtain ⟨l⟩ := sl
        simp only at hs
        rw [hs]
      subst hsl
      exact ⟨nm, qn, ns, bs, bm, sn, sub, ab, col, dd, k0, k1, k2, k3, k5, ho, hv⟩
    · cases q
  · cases q
def oexB (K : PySem.W.Frag) (C : Addr) : Bool := clsB K C && (decide (PySem.W.findIn K (.ref C) "__setattr__" = some (some (.builtin "object.__setattr__"))) && (decide (PySem.W.subIn K (.ref C) (.type "BaseException") = some true) && (decide (PySem.W.typeIn K (.ref C) = some (.type "type")) && PySem.W.keepIn K (.ref C))))
theorem oexB_ok {K : PySem.W.Frag} {C : Addr} (h : oexB K C = true) : OexC K C := by
  obtain ⟨h1, h⟩ := Bool.and_eq_true_iff.mp h
  obtain ⟨h2, h⟩ := Bool.and_eq_true_iff.mp h
  obtain ⟨h3, h⟩ := Bool.and_eq_true_iff.mp h
  obtain ⟨h4, h5⟩ := Bool.and_eq_true_iff.mp h
  exact ⟨clsB_ok h1, of_decide_eq_true h2, of_decide_eq_true h3, of_decide_eq_true h4, h5⟩
def isInitB (K : PySem.W.Frag) (B : Addr) : Bool := match PySem.W.findCls K (.ref B) (.type "type") "__init__" with
  | some (.val (.builtin n)) => n == "ValueError.__init__"
  | _ => false
def baseB (K : PySem.W.Frag) (B : Addr) : Bool := decide (PySem.W.specialIn K (.ref B) "__getattribute__" = some (some (.builtin "type.__getattribute__"))) && (PySem.W.readsIn K B (.type "type") && isInitB K B)
theorem baseB_ok {K : PySem.W.Frag} {B : Addr} (h : baseB K B = true) : BaseC K B := by
  obtain ⟨h1, h⟩ := Bool.and_eq_true_iff.mp h
  obtain ⟨h2, h3⟩ := Bool.and_eq_true_iff.mp h
  refine ⟨of_decide_eq_true h1, h2, ?_⟩
  unfold isInitB at h3
  split at h3
  · rename_i n e
    rw [e, beq_iff_eq.mp h3]
  · cases h3
/-- the class nm, its field fl: what raising it asks -/
def rzB (K : PySem.W.Frag) (nm fl : Str) : Bool := oexB K (He.ga K nm) && (decide (PySem.W.findIn K (.ref (He.ga K nm)) fl = some none) && (decide (PySem.W.findIn K (.ref (He.ga K nm)) "__init__" = some (some (.ref (He.ma K (He.ga K nm) "__init__")))) && decide (PySem.W.typeIn K (.ref (He.ma K (He.ga K nm) "__init__")) = some (.type "function"))))
theorem rzB_ok {K : PySem.W.Frag} {mg : Str → Option Value} {nm fl : Str} (h : rzB K nm fl = true) (g : mg nm = some (.ref (He.ga K nm))) :
    RzC K mg nm fl (He.ga K nm) ∧ PySem.W.findIn K (.ref (He.ga K nm)) "__init__" = some (some (.ref (He.ma K (He.ga K nm) "__init__"))) ∧ PySem.W.typeIn K (.ref (He.ma K (He.ga K nm) "__init__")) = some (.type "function") := by
  obtain ⟨h1, h⟩ := Bool.and_eq_true_iff.mp h
  obtain ⟨h2, h⟩ := Bool.and_eq_true_iff.mp h
  obtain ⟨h3, h4⟩ := Bool.and_eq_true_iff.mp h
  exact ⟨⟨g, oexB_ok h1, of_decide_eq_true h2⟩, of_decide_eq_true h3, of_decide_eq_true h4⟩
/-! ### isinstance of a caught error that has a dict of its own -/
structure IsC (K : PySem.W.Frag) (D : Addr) : Prop where
  x : XfC K D
  ha : PySem.W.findIn K (.ref D) "__class__" = some (some (.builtin "object.__class__"))
  hn : PySem.W.specialIn K (.builtin "object.__class__") "__get__" = some (some (.builtin "getset_descriptor.__get__"))
  ht : PySem.W.takesIn K (.builtin "object.__class__") = some true
  hm : PySem.W.mroIn K D (.type "object") = some true
  hc : (PySem.W.clsIn K D).isSome = true
def isCB (K : PySem.W.Frag) (D : Addr) : Bool := xfB K D && (decide (PySem.W.findIn K (.ref D) "__class__" = some (some (.builtin "object.__class__"))) && (decide (PySem.W.specialIn K (.builtin "object.__class__") "__get__" = some (some (.builtin "getset_descriptor.__get__"))) && (decide (PySem.W.takesIn K (.builtin "object.__class__") = some true) && (decide (PySem.W.mroIn K D (.type "object") = some true) && (PySem.W.clsIn K D).isSome))))
theorem isCB_ok {K : PySem.W.Frag} {D : Addr} (h : isCB K D = true) : IsC K D := by
  obtain ⟨h1, h⟩ := Bool.and_eq_true_iff.mp h
  obtain ⟨h2, h⟩ := Bool.and_eq_true_iff.mp h
  obtain ⟨h3, h⟩ := Bool.and_eq_true_iff.mp h
  obtain ⟨h4, h⟩ := Bool.and_eq_true_iff.mp h
  obtain ⟨h5, h6⟩ := Bool.and_eq_true_iff.mp h
  exact ⟨xfB_ok h1, of_decide_eq_true h2, of_decide_eq_true h3, of_decide_eq_true h4, of_decide_eq_true h5, h6⟩
def rIsD (K : PySem.W.Frag) (D a : Addr) (d : Option Addr) : List V → Hp → VK → Prop := fun xs H Q => ∃ (c : V) (cv : Value) (b : Bool), xs = [.ref a, c] ∧ (∃ dd fs, d = some dd ∧ H dd = some (.xd fs)) ∧ (∀ u, RelV c u → u = cv) ∧ PySem.W.kitOne K (.ref D) cv = some b ∧ Q (.bl b) H
theorem call_isD {X : Cx} {a D : Addr} {oe : Obj} {d : Option Addr} {pn : List (Addr × Obj)} (C : IsC X.K D) (hz : Zc (.ref D) d oe) (hf : ∃ vs, oe.data = .fields vs) : CallR (X.suite a ((a, oe) :: pn)) (.builtin "isinstance") (rIsD X.K D a d) := by
  intro pins s σ H xs us Q I r h
  obtain ⟨c, cv, b, rfl, ⟨dd, fs, rfl, hdd⟩, hcv, e, q⟩ := h
  cases r with
  | cons rx rr =>
    cases rr with
    | cons rt rr =>
      cases rr
      cases rx
      have ec := hcv _ rt
      subst ec
      obtain ⟨hget, _⟩ := I.pin (a, oe) (List.mem_append.mpr (.inl List.mem_cons_self))
      obtain ⟨vs, hv⟩ := hf
      have hx : ObjOk X.prog X.w H s.heap dd (.xd fs) := I.hok dd _ hdd
      obtain ⟨mA, hns, _⟩ := hx
      obtain ⟨od, ho, _⟩ := lookIn_ns hns
      have J : PySem.W.InstAt s.heap a oe D (some od) := ⟨hget, hz.1, by unfold PySem.W.notCls; rw [hv] <;> rfl, by rw [hz.2]; exact ho⟩
      exact PySem.W.kia_one (PySem.W.kitx_exc C.hc C.x.ga C.x.gg C.x.exC C.ha C.hn C.ht C.hm) I.kIn J e (fun z => nomatch z) fun tk => ⟨.bl b, H, I.kept (t' := tk) fun _ _ z => z, rfl, q⟩
end HD
end
section
/-! The data layer: try: return f(..) except Base as e: the error's row is handed back. -/
namespace HD
open PySem PySem.Spec L2
open PyProof.Rows hiding St
def rIsX (K : PySem.W.Frag) (Ct a : Addr) (cls : Value) (d : Option Addr) : List V → Hp → VK → Prop := fun xs H Q => cls = .ref Ct ∧ rIsD K Ct a d xs H Q
theorem call_isX {X : Cx} {a Ct : Addr} {oe : Obj} {cls : Value} {d : Option Addr} {pn : List (Addr × Obj)} (C : IsC X.K Ct) (hz : Zc cls d oe) (hf : ∃ vs, oe.data = .fields vs) : CallR (X.suite a ((a, oe) :: pn)) (.builtin "isinstance") (rIsX X.K Ct a cls d) := by
  intro pins s σ H xs us Q I r h
  obtain ⟨rfl, h⟩ := h
  exact call_isD C hz hf pins s σ H xs us Q I r h
def isE (K : PySem.W.Frag) (Ct a : Addr) (cls : Value) (d : Option Addr) (ie : Nat) (c : V) : TE := tCB (rIsX K Ct a cls d) (tCons (tVar ie) (tCons (tC c) tNil))
/-- other = isinstance(e, A) or isinstance(e, B) or isinstance(e, C); return e.row if isinstance(e, T) and isinstance(e, ValueError) and not other else None -/
def tsT (K : PySem.W.Frag) (Ct Ca Cl Cw : Addr) (ie io : Nat) : Addr → Value → Option Addr → TS := fun a cls d =>
  tSeq (tAsg (tOrV (isE K Ct a cls d ie (.ref Ca)) (tOrV (isE K Ct a cls d ie (.ref Cl)) (isE K Ct a cls d ie (.ref Cw)))) (gName io))
    (tSeq (tRet (tIf (tAnd (tB (isE K Ct a cls d ie (.ref Ct))) (tAnd (tB (isE K Ct a cls d ie (.ty "ValueError"))) (tNot (tB (tVar io))))) (tXf a cls d Ct "row" (tVar ie)) (tC .non))) tNext)
/-- what the classes say of one another -/
structure Kits (K : PySem.W.Frag) (Ct Ca Cl Cw Ch : Addr) : Prop where
  em : PySem.W.exmOne K (.ref Ct) (.ref Ch) = some true
  ka : PySem.W.kitOne K (.ref Ct) (.ref Ca) = some false
  kl : PySem.W.kitOne K (.ref Ct) (.ref Cl) = some false
  kw : PySem.W.kitOne K (.ref Ct) (.ref Cw) = some false
  kt : PySem.W.kitOne K (.ref Ct) (.ref Ct) = some true
  kv : PySem.W.kitOne K (.ref Ct) (.type "ValueError") = some true
theorem isE_ok {K : PySem.W.Frag} {Ct a dd : Addr} {fs : List (Str × V)} {ie : Nat} {c : V} {cv : Value} {b : Bool} {σ : St} {H : Hp} {Q : VK} (hσ : σ[ie]? = some (some (.ref a))) (hd : H dd = some (.xd fs)) (hc : ∀ u, RelV c u → u = cv) (k : PySem.W.kitOne K (.ref Ct) cv = some b) (q : Q (.bl b) H) :
    isE K Ct a (.ref Ct) (some dd) ie c σ H Q := ⟨.ref a, hσ, rfl, c, cv, b, rfl, ⟨dd, fs, rfl, hd⟩, hc, k, q⟩
theorem tsT_ok {K : PySem.W.Frag} {Ct Ca Cl Cw Ch a dd : Addr} {fs : List (Str × V)} {ie io : Nat} {n : Int} {D : Ends} {σ : St} {H : Hp} (k : Kits K Ct Ca Cl Cw Ch) (hσ : σ[ie]? = some (some (.ref a))) (hio : io < σ.length) (hne : io ≠ ie) (hd : H dd = some (.xd fs)) (hl : fs.lookup ("row" : Str) = some (V.int n)) (q : D.rt (.int n) H) :
    tsT K Ct Ca Cl Cw ie io a (.ref Ct) (some dd) D σ H := by
  have h2 : (σ.set io (some (.bl false)))[ie]? = some (some (.ref a)) := by rw [List.getElem?_set_ne hne]; exact hσ
  have h3 : (σ.set io (some (.bl false)))[io]? = some (some (.bl false)) := by rw [List.getElem?_set, if_pos rfl, if_pos hio]
  refine isE_ok hσ hd (fun u r => r) k.ka ⟨false, rfl, iteF ?_⟩
  refine isE_ok hσ hd (fun u r => r) k.kl ⟨false, rfl, iteF ?_⟩
  refine isE_ok hσ hd (fun u r => r) k.kw ?_
  refine isE_ok h2 hd (fun u r => r) k.kt ⟨true, rfl, iteT ?_⟩
  refine isE_ok h2 hd (fun u r => r) k.kv ⟨true, rfl, iteT ?_⟩
  exact ⟨.bl false, h3, false, rfl, iteT ⟨.ref a, h2, rfl, rfl, dd, fs, .int n, rfl, hd, hl, q⟩⟩
theorem ds_tryText {X : Cx} {Ct Ca Cl Cw Ch : Addr} {ie io : Nat} {en hn : Str} {er : Expr} {g : EM D} {s1 s2 : Stmt} {np pos pos' p1 : Pos} (hst : X.stack = X.env :: X.outer) (hfr : X.env.frame = some X.env.locals) (hN : X.N.Nodup) (hie : X.N[ie]? = some en) (hne : io ≠ ie) (hln : X.env.kindOf en = some .local) (hH : Names X hn (.ref Ch)) (gT : X.mg "BadText" = some (.ref Ct)) (k : Kits X.K Ct Ca Cl Cw Ch)
    (hb : ∀ (W : WX) (pn : List (Addr × Obj)) (xe : Value → Shared → Prop), Takes (X.tr pn xe) W → DE (X.tr pn xe) (wdOf X.mg W) er g)
    (hsu : ∀ (a : Addr) (oe : Obj) (cls : Value) (d : Option Addr) (pn : List (Addr × Obj)), Zc cls d oe → (∃ vs, oe.data = .fields vs) → PSs (X.suite a ((a, oe) :: pn)) [s1, s2] (tsT X.K Ct Ca Cl Cw ie io a cls d)) :
    DS X W0 false (.Try [.Return (some er) p1] [.ExceptHandler (some (.Name hn np)) (some en) [s1, s2] pos'] [] [] pos) (sTryH g rowOf ie io) := by
  refine ps_imp (ps_try_as (i := ie) (c := .ref Ch) (tb := fun W => tRet (tD X.K (wdOf X.mg W) g)) (ts := tsT X.K Ct Ca Cl Cw ie io) (Wout := fun _ _ _ _ => False) hst hfr hN hie hln hH (fun u s' x => by obtain ⟨_, _, _, _, _, _, _, _, _, _, _, _, _, _, _, _, w⟩ := x; exact w.elim)
    (fun W pn xe tk _ => pss_one (ps_ret (hb W pn xe tk))) hsu) fun E σ H hq => ?_
  obtain ⟨C, l, rw, G, S, hp⟩ := hq
  unfold sTryH at hp
  refine ⟨C, l, rw, G, S, ?_⟩
  cases e1 : g l rw with
  | stuck => rw [e1] at hp; exact hp.elim
  | ok p =>
    obtain ⟨d, rw1⟩ := p
    rw [e1] at hp
    exact fun v H1 G1 S1 s1 r1 => hp v σ H1 G1 S1 r1
  | exc x w =>
    rw [e1] at hp
    cases x with
    | text n =>
      replace hp : SPost X.K W0 false C (if ie < l.length ∧ io < l.length then .ok (.ret (rowOf (.text n)), l, w) else .stuck) E := hp
      by_cases hz : ie < l.length ∧ io < l.length
      case neg => rw [if_neg hz] at hp; exact hp.elim
      rw [if_pos hz] at hp
      intro H1 G1 S1 cls d hx
      obtain ⟨C', hC', rfl, dd, fs, rfl, hdd, hl⟩ := hx
      have hC' : X.mg "BadText" = some (.ref C') := hC'
      rw [gT] at hC'
      cases hC'
      refine ⟨true, k.em, fun _ a ha => ?_, fun z => nomatch z⟩
      have hlen := S1.len
      refine tsT_ok k (by rw [List.getElem?_set, if_pos rfl, if_pos (by rw [hlen]; exact hz.1)]) (by rw [List.length_set, hlen]; exact hz.2) hne hdd hl ?_
      exact hp (.int n) σ H1 G1 S1 (by unfold RetRep; rw [if_neg Bool.false_ne_true]; unfold rowOf Rep; rfl)
    | _ => exact hp.elim
end HD
end
section
/-! The data layer: defs that may raise BadText. -/
namespace HD
open PySem PySem.Spec L2
open PyProof.Rows hiding St
section
variable {P : Program} {w : World} {K : PySem.W.Frag} {mg : Str → Option Value} {base : Heap}
theorem calX_of {x : Str} {st : Stmt} {N ps : List Str} {k : Nat} {den : SM} (F : FnF K mg x st ps) (S : FnScope N ps (defScope st))
    (hb : ∀ (f : Addr) (cdv : Value) (A : Around) (outer : List Env) (s : Shared) (H : Hp) (E : XK), Room k (A.deeper (envOfC x (defScope st) s.heap.objs.size f cdv)) → DSs (cxOf (L2.CX P w) P w K mg base N x (defScope st) f cdv A outer s H E) (wdOf mg fun cls d _ H => E cls d H) false (defBody st) den) :
    CalX P w K mg base x (k + 1) ps (dDef false ps.length N.length den) := by
  obtain ⟨a, fd, F, g, b⟩ := F
  exact ⟨a, fd, fnX_den F S (hb a), g, F.kp, b⟩
/-- raising BadText(row): the class and its __init__ -/
structure RzT (P : Program) (w : World) (K : PySem.W.Frag) (mg : Str → Option Value) (base : Heap) : Prop where
  ex : ∃ (C fI : Addr) (fd : FuncData), RzC K mg "BadText" "row" C ∧ PySem.W.findIn K (.ref C) "__init__" = some (some (.ref fI)) ∧ PySem.W.typeIn K (.ref fI) = some (.type "function") ∧ FnOk P w K mg base (L2.CX P w) 1 fI fd ["self", "row"] (spI K "row") ∧ Binds K fd ["self", "row"] []
end
theorem mkText_at {mg : Str → Option Value} {C : Addr} (g : mg "BadText" = some (.ref C)) : ∀ (d : D) (x : Exn) (K : PySem.W.Frag) (o : Option Addr) (G : Hp) (v : V), mkText d = some x → Rep K o G d v → Exn.nm x = "BadText" ∧ ∀ (dd : Addr) (H : Hp), H dd = some (.xd [("row", v)]) → ExAt mg x (.ref C) (some dd) H := by
  intro d x K o G v e r
  cases d with
  | int n =>
    cases e
    unfold Rep at r
    subst r
    refine ⟨rfl, fun dd H h => ⟨C, g, rfl, dd, _, rfl, h, ?_⟩⟩
    simp [List.lookup]
  | _ => cases e
theorem RzT.ds {X : Cx} {Wx : WX} {own : Bool} {g : EM (List D)} {e : Expr} {p pos pos2 : Pos} (T : RzT X.prog X.w X.K X.mg X.base) (hc : X.calm = true) (tk : Takes X Wx) (hr : Room 2 X.A) (hg : Gl X "BadText") (ha : DA X (wdOf X.mg Wx) [e] g)
    (he : starEach [e] X.env = (false, eval e X.env) :: starEach [] X.env := by rfl) (hpl : (backTo pos (starEach [] X.env)).any (·.1) = false := by rfl) :
    DS X (wdOf X.mg Wx) own (.Raise (some (.Call (.Name "BadText" p) [e] [] pos)) none pos2) (sRaise mkText g) := by
  obtain ⟨C, fI, fd, R, i1, i2, F, b⟩ := T.ex
  exact ds_raise (p2 := pos) hc tk R i1 i2 F hr b (mkText_at R.g) hg ha (by decide) he hpl
/-! ### what the head asks -/
def kitsB (K : PySem.W.Frag) (Ct Ca Cl Cw Ch : Addr) : Bool := decide (PySem.W.exmOne K (.ref Ct) (.ref Ch) = some true) && (decide (PySem.W.kitOne K (.ref Ct) (.ref Ca) = some false) && (decide (PySem.W.kitOne K (.ref Ct) (.ref Cl) = some false) && (decide (PySem.W.kitOne K (.ref Ct) (.ref Cw) = some false) && (decide (PySem.W.kitOne K (.ref Ct) (.ref Ct) = some true) && decide (PySem.W.kitOne K (.ref Ct) (.type "ValueError") = some true)))))
theorem kitsB_ok {K : PySem.W.Frag} {Ct Ca Cl Cw Ch : Addr} (h : kitsB K Ct Ca Cl Cw Ch = true) : Kits K Ct Ca Cl Cw Ch := by
  obtain ⟨h1, h⟩ := Bool.and_eq_true_iff.mp h
  obtain ⟨h2, h⟩ := Bool.and_eq_true_iff.mp h
  obtain ⟨h3, h⟩ := Bool.and_eq_true_iff.mp h
  obtain ⟨h4, h⟩ := Bool.and_eq_true_iff.mp h
  obtain ⟨h5, h6⟩ := Bool.and_eq_true_iff.mp h
  exact ⟨of_decide_eq_true h1, of_decide_eq_true h2, of_decide_eq_true h3, of_decide_eq_true h4, of_decide_eq_true h5, of_decide_eq_true h6⟩
def excB (K : PySem.W.Frag) : Bool := rzB K "BadText" "row" && (baseB K (He.ga K "HopError") && (isCB K (He.ga K "BadText") && (kitsB K (He.ga K "BadText") (He.ga K "BadAsk") (He.ga K "BadLog") (He.ga K "BadWeb") (He.ga K "HopError") && decide (PySem.W.findIn K (.ref (He.ga K "BadText")) "row" = some none))))
/-- the classes, for a try that hands back the row -/
structure ExT (K : PySem.W.Frag) (mg : Str → Option Value) (Ct Ca Cl Cw Ch : Addr) : Prop where
  gt : mg "BadText" = some (.ref Ct)
  ga : mg "BadAsk" = some (.ref Ca)
  gl : mg "BadLog" = some (.ref Cl)
  gw : mg "BadWeb" = some (.ref Cw)
  gh : mg "HopError" = some (.ref Ch)
  is_ : IsC K Ct
  k : Kits K Ct Ca Cl Cw Ch
  no : PySem.W.findIn K (.ref Ct) "row" = some none
theorem excB_ok {K : PySem.W.Frag} {mg : Str → Option Value} (h : excB K = true) (gt : mg "BadText" = some (.ref (He.ga K "BadText"))) (ga : mg "BadAsk" = some (.ref (He.ga K "BadAsk"))) (gl : mg "BadLog" = some (.ref (He.ga K "BadLog"))) (gw : mg "BadWeb" = some (.ref (He.ga K "BadWeb"))) (gh : mg "HopError" = some (.ref (He.ga K "HopError"))) :
    rzB K "BadText" "row" = true ∧ BaseC K (He.ga K "HopError") ∧ ExT K mg (He.ga K "BadText") (He.ga K "BadAsk") (He.ga K "BadLog") (He.ga K "BadWeb") (He.ga K "HopError") := by
  obtain ⟨h1, h⟩ := Bool.and_eq_true_iff.mp h
  obtain ⟨h2, h⟩ := Bool.and_eq_true_iff.mp h
  obtain ⟨h3, h⟩ := Bool.and_eq_true_iff.mp h
  obtain ⟨h4, h5⟩ := Bool.and_eq_true_iff.mp h
  exact ⟨h1, baseB_ok h2, gt, ga, gl, gw, gh, isCB_ok h3, kitsB_ok h4, of_decide_eq_true h5⟩
end HD
end
section
/-! The head's hook, with the classes' static names beside what the module's names reach. -/
namespace HD
open PySem PySem.Spec L2 He
open PyProof.Rows hiding St
def asY (g : Addr → Option Obj) (n : Nat) : List Addr := cStatics :: asD g n
def obsY (n : Nat) (fa : List Fa) (fn : List DefD) (ts : List Tab) (tf : List Defn) (ex : PySem.W.Frag → Bool) (g : Addr → Option Obj) : AlX := (obsT fa fn ts (frT g (asY g n)), ex (frT g (asY g n)) && tabsB g tf (frT g (asY g n)))
theorem saysY_of {n : Nat} {fa : List Fa} {fn : List DefD} {ts : List Tab} {tf : List Defn} {ex : PySem.W.Frag → Bool} {w : World} {h : Heap} (e : obsY n fa fn ts tf ex h.get? = valX fn ts w) : SaysX fa fn ts tf ex w h (frT h.get? (asY h.get? n)) := by
  have e1 : obsT fa fn ts (frT h.get? (asY h.get? n)) = valT fn ts w := congrArg (fun z : AlX => z.1) e
  have e2 : (ex (frT h.get? (asY h.get? n)) && tabsB h.get? tf (frT h.get? (asY h.get? n))) = true := congrArg (fun z : AlX => z.2) e
  generalize hK : frT h.get? (asY h.get? n) = K at *
  obtain ⟨h1, h2⟩ := ba e2
  have key : ∀ p ∈ tf, PySem.W.codeHdIn K (cT K p).1 (cT K p).2 = true ∧ ∃ o, h.get? (cT K p).2 = some o ∧ emptyTab o = true := fun p hp => by
    obtain ⟨h3, h4⟩ := ba (List.all_eq_true.mp h2 p hp)
    refine ⟨h3, ?_⟩
    cases q : h.get? (cT K p).2 with
    | none => rw [q] at h4; cases h4
    | some o => rw [q] at h4; exact ⟨o, rfl, h4⟩
  refine ⟨e1, h1, fun p hp => (key p hp).1, fun p hp => ?_, fun p hp => ?_⟩
  · obtain ⟨_, o, q, z⟩ := key p hp
    have := frT_none (as := asY h.get? n) q z
    rw [hK] at this
    exact this
  · obtain ⟨_, o, q, z⟩ := key p hp
    rw [q, emptyTab_eq z]
def hookY (n : Nat) (fa : List Fa) (fn : List DefD) (ts : List Tab) (tf : List Defn) (ex : PySem.W.Frag → Bool) : PySem.W.Hook where
  α := AlX
  obs := fun s => obsY n fa fn ts tf ex s.heap.get?
  val := fun w => valX fn ts w
  says := fun w h => ∃ K : PySem.W.Frag, K.In h ∧ SaysX fa fn ts tf ex w h K
  of := fun _ _ e => ⟨_, frT_in, saysY_of e⟩
  keeps := fun _ _ _ ⟨K, hK, c⟩ k => ⟨K, PySem.W.Frag.In.keeps hK k, ⟨c.t, c.more, c.hd, c.out, fun p hp => k _ _ (c.empty p hp)⟩⟩
theorem obsY_eq {n : Nat} {fa : List Fa} {fn : List DefD} {ts : List Tab} {tf : List Defn} {ex : PySem.W.Frag → Bool} {g : Addr → Option Obj} {s : Shared} (h : ∀ a, g a = s.heap.get? a) : obsY n fa fn ts tf ex g = (hookY n fa fn ts tf ex).obs s := by
  have e : g = s.heap.get? := funext h
  rw [e]
  rfl
end HD
end
section
/-! The data layer: lambdas without parameters that outlive their maker: the function and its cells are tracked. -/
namespace HD
open PySem PySem.Spec L2
open PyProof.Rows hiding St

/-- a known object that is never changed -/
def LamO (f : Addr) (ob : Obj) : HO := .ext fun h => h.get? f = some ob
/-- a cell that holds u -/
def CellO (c : Addr) (u : Value) : HO := .ext fun h => h.IsCell c (some u)
abbrev isExt (o : HO) : Prop := ∃ φ, o = .ext φ

/-! ### what is tracked, hidden for a while -/
def hid (C : List Addr) (H : Hp) : Hp := fun a => if a ∈ C then none else H a
def ovl (C : List Addr) (H H' : Hp) : Hp := fun a => if a ∈ C then H a else H' a
section
variable {C : List Addr} {H H' : Hp} {a : Addr} {o : HO}
theorem hid_in (h : a ∈ C) : hid C H a = none := by unfold hid; rw [if_pos h]
theorem hid_out (h : a ∉ C) : hid C H a = H a := by unfold hid; rw [if_neg h]
theorem ovl_in (h : a ∈ C) : ovl C H H' a = H a := by unfold ovl; rw [if_pos h]
theorem ovl_out (h : a ∉ C) : ovl C H H' a = H' a := by unfold ovl; rw [if_neg h]
theorem hid_some (h : hid C H a = some o) : H a = some o ∧ a ∉ C := by
  by_cases q : a ∈ C
  · rw [hid_in q] at h; cases h
  · rw [hid_out q] at h; exact ⟨h, q⟩
theorem hid_none (h : H a = none) : hid C H a = none := by
  by_cases q : a ∈ C
  · exact hid_in q
  · rw [hid_out q]; exact h
end
/-- all at C is tracked, as what is no list, no table .. -/
def Exts (C : List Addr) (H : Hp) : Prop := ∀ a ∈ C, ∃ φ, H a = some (.ext φ)
section
variable {P : Program} {w : World} {C : List Addr} {H H' : Hp} {h h' B : Heap}
theorem Exts.out (x : Exts C H) {a : Addr} {o : HO} (h : H a = some o) (n : ¬ isExt o) : a ∉ C := fun q => by
  obtain ⟨φ, e⟩ := x a q
  rw [h] at e; cases e
  exact n ⟨φ, rfl⟩
theorem Exts.hid (x : Exts C H) (ok : HOk P w H h) : HOk P w (hid C H) h := fun b u e => by
  obtain ⟨e1, _⟩ := hid_some e
  refine (ok b u e1).stay (fun _ _ _ q => q) (fun c q => ?_) fun c xs q => ?_
  · rw [hid_out (x.out q fun ⟨_, z⟩ => nomatch z)]; exact q
  · rw [hid_out (x.out q fun ⟨_, z⟩ => nomatch z)]; exact q
/-- behind a run that knew nothing of them -/
theorem Exts.back (x : Exts C H) (ok : HOk P w H h) (ok' : HOk P w H' h') (no : ∀ a ∈ C, H' a = none) (k : ∀ a ∈ C, ∀ o, h.get? a = some o → h'.get? a = some o) : HOk P w (ovl C H H') h' := fun b u e => by
  by_cases q : b ∈ C
  · rw [ovl_in q] at e
    obtain ⟨φ, e2⟩ := x b q
    rw [e] at e2; cases e2
    obtain ⟨p, ⟨o, eo⟩, st⟩ := ok b _ e
    exact ⟨st _ _ p fun o z => k b q o z, ⟨o, k b q o eo⟩, st⟩
  · rw [ovl_out q] at e
    refine (ok' b u e).stay (fun _ _ _ z => z) (fun c z => ?_) fun c xs z => ?_
    · rw [ovl_out fun hc => by rw [no c hc] at z; cases z]; exact z
    · rw [ovl_out fun hc => by rw [no c hc] at z; cases z]; exact z
theorem Exts.there (x : Exts C H) (ok : HOk P w H h) {a : Addr} (ha : a ∈ C) : ∃ o, h.get? a = some o := by
  obtain ⟨φ, e⟩ := x a ha
  obtain ⟨_, z, _⟩ := ok a _ e
  exact z
variable {A : Around} {outer : List Env} {s s' : Shared} {K : PySem.W.Frag} {mg : Str → Option Value} {base : Heap}
theorem Exts.env0 (x : Exts C H) (e : Env0 P w K mg base A outer s H) : Env0 P w K mg base A outer s (HD.hid C H) :=
  ⟨e.frames, e.mod, fun b o q => ⟨(e.bs b o q).1, hid_none (e.bs b o q).2⟩, e.bsz, e.funs, fun b hb => hid_none (e.frf b hb), x.hid e.hok, e.bare⟩
theorem Exts.un (x : Exts C H) {fs : List Addr} (u : Un fs [] (HD.hid C H) H' h h') : Un fs [] H (ovl C H H') h h' where
  keep := fun b o e n hb hx => u.keep b o e (hid_none n) hb hx
  slot := fun b o e n hb hx => u.slot b o e (hid_none n) hb hx
  free := fun b o e n hx => by
    have q : b ∉ C := fun hc => by obtain ⟨φ, z⟩ := x b hc; rw [n] at z; cases z
    rw [ovl_out q]; exact u.free b o e (hid_none n) hx
  there := u.there
  tups := fun b xs e => by
    have q := x.out e fun ⟨_, z⟩ => nomatch z
    rw [ovl_out q]; exact u.tups b xs (by rw [hid_out q]; exact e)
  frzs := fun b o v e => by
    have q := x.out e fun ⟨_, z⟩ => nomatch z
    rw [ovl_out q]; exact u.frzs b o v (by rw [hid_out q]; exact e)
  tbls := fun b ps e => by
    have q := x.out e fun ⟨_, z⟩ => nomatch z
    rw [ovl_out q]; exact u.tbls b ps (by rw [hid_out q]; exact e)
theorem Exts.frame (x : Exts C H) (e : Env0 P w K mg base A outer s H) {a : Addr} (ha : a ∈ C) : a ∉ frs outer := fun hb => by
  obtain ⟨φ, z⟩ := x a ha
  rw [e.frf a hb] at z; cases z
/-- a call's end, told with them -/
theorem Exts.ce (x : Exts C H) (e : Env0 P w K mg base A outer s H) {Q : VK} {u : Value} (c : CE outer P w (HD.hid C H) s (fun v H' => (∀ a ∈ C, H' a = none) → Q v (ovl C H H')) u s') : CE outer P w H s Q u s' := by
  obtain ⟨v, H', os, bare, un, hok, r, q⟩ := c
  have no : ∀ a ∈ C, H' a = none := fun a ha => by
    obtain ⟨o, ho⟩ := x.there e.hok ha
    exact un.free a o ho (hid_in ha) (by simp)
  exact ⟨v, ovl C H H', os, bare, x.un un, x.back e.hok hok no fun a ha o ho => un.keep a o ho (hid_in ha) (x.frame e ha) (by simp), r, q no⟩
theorem Exts.cx (x : Exts C H) (e : Env0 P w K mg base A outer s H) {E : XK} {u : Value} (c : L2.CX P w outer (HD.hid C H) s (fun cls d H' => (∀ a ∈ C, H' a = none) → E cls d (ovl C H H')) u s') : L2.CX P w outer H s E u s' := by
  obtain ⟨a, B, H', cls, d, rfl, fl, hok, ub, na, os, ag, hE⟩ := c
  have kB : ∀ b ∈ C, ∀ o, s.heap.get? b = some o → B.get? b = some o := fun b hb o ho => ub.keep b o ho (hid_in hb) (x.frame e hb)
  have no : ∀ b ∈ C, H' b = none := fun b hb => by
    obtain ⟨o, ho⟩ := x.there e.hok hb
    exact ub.free b o ho (hid_in hb)
  refine ⟨a, B, ovl C H H', cls, d, rfl, fl, x.back e.hok hok no kB, ⟨fun b o q n hb => ub.keep b o q (hid_none n) hb, ub.slot, fun b o q n => ?_, ub.there, fun b xs q => ?_, fun b o v q => ?_, fun b ps q => ?_⟩, ?_, os, ag, hE no⟩
  · have z : b ∉ C := fun hc => by obtain ⟨φ, z⟩ := x b hc; rw [n] at z; cases z
    rw [ovl_out z]; exact ub.free b o q (hid_none n)
  · have z := x.out q fun ⟨_, z⟩ => nomatch z
    rw [ovl_out z]; exact ub.tups b xs (by rw [hid_out z]; exact q)
  · have z := x.out q fun ⟨_, z⟩ => nomatch z
    rw [ovl_out z]; exact ub.frzs b o v (by rw [hid_out z]; exact q)
  · have z := x.out q fun ⟨_, z⟩ => nomatch z
    rw [ovl_out z]; exact ub.tbls b ps (by rw [hid_out z]; exact q)
  · have z : a ∉ C := fun hc => by
      obtain ⟨o, ho⟩ := x.there e.hok hc
      have := kB a hc o ho
      rw [fl.2.1] at this; cases this
    rw [ovl_out z]; exact na
end

/-! ### a lambda's own context, wherever it is called -/
abbrev lamEnvY (q : Str) (cl : List (Str × Addr)) (scope : Scope) (L f c' : Addr) : Env := PySem.W.envX q scope L f (.ref c') cl
def lamCy (P : Program) (w : World) (K : PySem.W.Frag) (mg : Str → Option Value) (base : Heap) (N : List Str) (q : Str) (cl : List (Str × Addr)) (A : Around) (outer : List Env) (s : Shared) (H : Hp) (E : XK) (scope : Scope) (f c' : Addr) : Cx where
  prog := P
  w := w
  K := K
  mg := mg
  base := base
  A := A.deeper (lamEnvY q cl scope s.heap.objs.size f c')
  N := N
  s_0 := s
  H_0 := H
  env := lamEnvY q cl scope s.heap.objs.size f c'
  outer := outer
  stack := lamEnvY q cl scope s.heap.objs.size f c' :: outer
  ex := []
  fn := fun _ => false
  calm := true
  pn := []
  xe := fun e s' => wpAny (model P w) (A.deeper (lamEnvY q cl scope s.heap.objs.size f c')) (leaving (lamEnvY q cl scope s.heap.objs.size f c') e) (fun _ s'' => L2.CX P w outer H s E e s'') (fun e' s'' => L2.CX P w outer H s E e' s'') s'
/-- no name of its own: captured ones and globals -/
structure LamZ (scope : Scope) : Prop where
  kind : scope.kind = .function
  co : scope.isCoroutine = false
  gen : scope.isGenerator = false
  own : ∀ y ∈ scope.names, y.2 ≠ .local ∧ y.2 ≠ .cell
/-- the cells cl bear the slots σ of the names N -/
structure CellsAt (H : Hp) (N : List Str) (σ : St) (cl : List (Str × Addr)) : Prop where
  inj : ∀ x y c, cl.lookup x = some c → cl.lookup y = some c → x = y
  bear : ∀ x c, (x, c) ∈ cl → ∃ (i : Nat) (v : V) (u : Value), N[i]? = some x ∧ σ[i]? = some (some v) ∧ RelV v u ∧ H c = some (CellO c u)
abbrev adrs (cl : List (Str × Addr)) : List Addr := cl.map (·.2)
section
variable {P : Program} {w : World} {K : PySem.W.Frag} {mg : Str → Option Value} {base : Heap} {N : List Str} {q : Str} {cl : List (Str × Addr)} {A : Around} {outer : List Env} {s : Shared} {H : Hp} {E : XK} {scope : Scope} {f c' : Addr} {σ : St}
theorem lam_start3 {h₁ : Heap} {tk : Nat} (L : LamZ scope) (hfree : ∀ y ∈ scope.names, y.2 = .free → ∃ c, cl.lookup y.1 = some c) (e0 : Env0 P w K mg base A outer s H) (hd : A.handled = none) (hN : N.Nodup)
    (inj : ∀ x y c, cl.lookup x = some c → cl.lookup y = some c → x = y)
    (hc : ∀ x c, cl.lookup x = some c → H c = none ∧ ∃ (i : Nat) (v : V) (u : Value), N[i]? = some x ∧ σ[i]? = some (some v) ∧ RelV v u ∧ s.heap.IsCell c (some u)) (len : σ.length = N.length)
    (hns : h₁.Ns s.heap.objs.size fun y => ([] : List (Str × Value)).reverse.lookup y) (kp : ∀ b o, s.heap.get? b = some o → h₁.get? b = some o) :
    Inv (lamCy P w K mg base N q cl A outer s H E scope f c') [] σ H { s with heap := h₁, toks := tk } := by
  have cellK : ∀ {c : Addr} {v : Option Value}, s.heap.IsCell c v → h₁.IsCell c v := fun {c v} ⟨o, ho, hd⟩ => ⟨o, kp _ _ ho, hd⟩
  have noA : ∀ b : Addr, b ∉ (lamCy P w K mg base N q cl A outer s H E scope f c').ex := fun b z => absurd (show b ∈ ([] : List Addr) from z) (by simp)
  refine ⟨⟨e0.mod, L.kind, rfl, rfl, Nat.le_refl _, inj, fun y hy => ?_, fun y c z _ => ?_, fun _ => hd, Around.frames_deeper e0.frames, .inr ⟨rfl, rfl⟩, fun b z => absurd z (noA b), e0.bs, e0.bsz, fun b _ _ => noA b,
      fun b z => absurd z (noA b), e0.funs, e0.frf⟩,
    rfl, e0.bare, Un.kept kp, ⟨_, hns, fun i y v e1 e2 e3 => ?_⟩, fun y c e => ?_, e0.hok.fresh (Nat.le_refl _), fun y c e => (hc y c e).1, fun q hq => absurd (show q ∈ ([] : List (Addr × Obj)) ++ [] from hq) (by simp), e0.hok.kept kp, len⟩
  · have hy : scope.names.lookup y = some .cell ∨ scope.names.lookup y = some .free := hy
    rcases hy with hy | hy
    · exact absurd rfl (L.own _ (PySem.mem_of_lookup hy)).2
    · exact hfree _ (PySem.mem_of_lookup hy) rfl
  · have z : false = true := z
    cases z
  · have e3 : Vis scope y := e3
    rcases e3 with k | k | k
    · exact absurd rfl (L.own _ (PySem.mem_of_lookup k)).1
    · exact absurd rfl (L.own _ (PySem.mem_of_lookup k)).2
    · obtain ⟨c, e⟩ := hfree _ (PySem.mem_of_lookup k) rfl
      obtain ⟨_, j, v', u, h1, h2, h3, h4⟩ := hc y c e
      have ej := nodup_ix hN e1 h1
      subst ej
      have e2 : σ[i]? = some (some v) := e2
      rw [e2] at h2
      cases h2
      exact ⟨u, h3, .inr ⟨.inr k, c, e, cellK h4⟩⟩
  · obtain ⟨_, j, v', u, h1, h2, h3, h4⟩ := hc y c e
    exact ⟨some u, cellK h4⟩
/-- the lambda runs -/
theorem lam_run {params : Arguments} {body : Expr} {pm ctv : Value} {k : Nat} {tb : XK → TE} {Q : VK} (L : LamZ scope) (hfree : ∀ y ∈ scope.names, y.2 = .free → ∃ c, cl.lookup y.1 = some c) (e0 : Env0 P w K mg base A outer s H) (hr : Room (k + 1) A) (hN : N.Nodup) (len : σ.length = N.length)
    (hf : H f = some (LamO f (PySem.W.kla_obj "<lambda>" q params body scope cl pm c' ctv))) (hc : H c' = some (LamX.CodeO c' q)) (Cs : CellsAt H N σ cl)
    (hbind : bindArgs (PySem.W.kla_fn "<lambda>" q params body scope cl pm (.ref c') ctv) ⟨[], []⟩ = pure [])
    (hbody : ∀ (A : Around) (outer : List Env) (s : Shared) (H : Hp) (E : XK), Room k (A.deeper (lamEnvY q cl scope s.heap.objs.size f c')) → PE (lamCy P w K mg base N q cl A outer s H E scope f c') body (tb E))
    (ht : tb (fun cls d H' => (∀ a ∈ adrs cl, H' a = none) → E cls d (ovl (adrs cl) H H')) σ (hid (adrs cl) H) fun v H' => (∀ a ∈ adrs cl, H' a = none) → Q v (ovl (adrs cl) H H')) :
    codeAny (model P w) A (.call (.ref f) ⟨[], []⟩) (CR (L2.CX P w) outer P w H s Q E) s := by
  have hx : Exts (adrs cl) H := fun a ha => by
    obtain ⟨⟨x, c⟩, hm, rfl⟩ := List.mem_map.mp ha
    obtain ⟨_, _, _, _, _, _, h4⟩ := Cs.bear x c hm
    exact ⟨_, h4⟩
  have of1 : s.heap.get? f = some (PySem.W.kla_obj "<lambda>" q params body scope cl pm c' ctv) := (e0.hok f _ hf).1
  obtain ⟨⟨oc, vs, t, hoc, hdc, hvc⟩, _, _⟩ := e0.hok c' _ hc
  have lim : s.heap.NoLimit := e0.mod.nolimit.keeps fun b o e => (e0.bs b o e).1
  refine PySem.W.kla_callFunE hr.depth of1 rfl L.co L.gen rfl ⟨c', oc, vs, t, rfl, hoc, hdc, hvc⟩ ?_
  rw [hbind]
  refine wpAny_pure (wpAny_newFunctionEnv (fun y hy => (L.own y hy).2) (fun y hy => absurd hy (by simp)) (fun h₁ hns hsb => ⟨lim.fresh _ hsb, ?_⟩) L.kind)
  show codeAny _ _ (.expr body (lamEnvY q cl scope s.heap.objs.size f c')) _ _
  have kp : ∀ b o, s.heap.get? b = some o → h₁.get? b = some o := fun b o e => hsb.extBut b o (Nat.ne_of_lt (Heap.lt_size e)) (Heap.get?_push_of_some _ e)
  have J : Inv (lamCy P w K mg base N q cl A outer s (hid (adrs cl) H) (fun cls d H' => (∀ a ∈ adrs cl, H' a = none) → E cls d (ovl (adrs cl) H H')) scope f c') [] σ (hid (adrs cl) H) { s with heap := h₁, toks := s.toks + ([] : List (Str × Value)).length } :=
    lam_start3 L hfree (hx.env0 e0) hr.hd hN Cs.inj (fun x c e => ⟨hid_in (List.mem_map.mpr ⟨(x, c), PySem.mem_of_lookup e, rfl⟩), by
      obtain ⟨i, v, u, h1, h2, h3, h4⟩ := Cs.bear x c (PySem.mem_of_lookup e)
      exact ⟨i, v, u, h1, h2, h3, (e0.hok c _ h4).1⟩⟩) len hns kp
  refine PySem.W.kla_codeExpr (wpAny_mono ((hbody A outer s (hid (adrs cl) H) _ (hr.deeper _)).run [] _ _ (hid (adrs cl) H) _ J ht) (fun v s' hq => ?_) fun e s' hq => ?_)
  · obtain ⟨w', H', J', rv, qq⟩ := hq
    exact hx.ce e0 ⟨w', H', J'.os, J'.bare, J'.base, J'.hok, rv, qq⟩
  · exact wpAny_mono hq (fun _ s'' z => hx.cx e0 z) fun e' s'' z => hx.cx e0 z
end
end HD
end
section
/-! The data layer: a lambda is called by its name; it is made and tracked; a def that hands such back. -/
namespace HD
open PySem PySem.Spec L2
open PyProof.Rows hiding St

/-- what calling the value at f promises -/
abbrev ZP := Addr → Hp → VK → XK → Prop
def ZRun (P : Program) (w : World) (K : PySem.W.Frag) (mg : Str → Option Value) (base : Heap) (k : Nat) (φ : ZP) : Prop :=
  ∀ (f : Addr) (A : Around) (outer : List Env) (s : Shared) (H : Hp) (Q : VK) (E : XK), Room k A → Env0 P w K mg base A outer s H → φ f H Q E →
    PySem.W.FnAt f s.heap ∧ codeAny (model P w) A (.call (.ref f) ⟨[], []⟩) (CR (L2.CX P w) outer P w H s Q E) s
/-- a(), a name of ours that holds such a value -/
theorem pe_actZ {Z : Cx} {i k : Nat} {a : Str} {p1 p2 : Pos} {φ : ZP} {W : WX} (R : ZRun Z.prog Z.w Z.K Z.mg Z.base k φ) (hr : Room k Z.A) (hx : ∀ σ, PassesAt (L2.CX Z.prog Z.w) Z σ (WE W σ)) (hN : Z.N[i]? = some a) (hv : Vis Z.env.scope a)
    (hd : (a == ("__debug__" : Str)) = false := by decide) (hcd : (a == ("__classdict__" : Str)) = false := by decide) :
    PE Z (.Call (.Name a p1) [] [] p2) (fun σ H Q => ∃ f, σ[i]? = some (some (.ref f)) ∧ φ f H Q (WE W σ)) := by
  refine ⟨fun pins s σ H Q I h => ?_⟩
  obtain ⟨f, hs, h⟩ := h
  refine wpAny_Call_Name_kw (thn ((pe_var (pos := p1) (i := i) hN hv hd hcd).run pins s σ H (fun v H1 => v = .ref f ∧ H1 = H) I ⟨.ref f, hs, rfl, rfl⟩) fun u s1 ⟨v, H1, I1, r1, q1⟩ => ?_)
  obtain ⟨ev, eH⟩ := q1
  subst ev
  rw [eH] at I1
  obtain rfl : u = Value.ref f := r1
  obtain ⟨hf, rc⟩ := R f Z.A Z.stack s1 H Q (WE W σ) hr I1.env0 h
  refine PySem.W.callWith_F0 hf ?_
  refine wpAny_call (codeAny_mono rc fun r s' hq => ?_)
  cases r with
  | error e => exact hx σ pins H s1 e s' I1 hq
  | ok fl =>
    cases fl with
    | ret u => exact I1.after hq
    | next => exact False.elim hq
    | brk => exact False.elim hq
    | cont => exact False.elim hq

/-! ### making -/
def tLamT (K : PySem.W.Frag) (q : Str) (cells : List (Str × Addr)) (params : Arguments) (body : Expr) (scope : Scope) : TE := fun σ H Q => LamX.Tabs (tabT K) H ∧
  ∀ (f c' : Addr) (pm ctv : Value) (H1 : Hp), (∀ a o, H a = some o → nTb o → H1 a = some o) → (∀ a o, H a = some o → ∃ o', H1 a = some o') → LamX.Tabs (tabT K) H1 → H1 f = none → H1 c' = some (LamX.CodeO c' q) →
    Q (.ref f) (upd H1 f (LamO f (PySem.W.kla_obj "<lambda>" q params body scope (cloFrom cells scope.names []) pm c' ctv)))
theorem lamO_ok {P : Program} {w : World} {H : Hp} {h : Heap} {f : Addr} {ob : Obj} (e : h.get? f = some ob) : ObjOk P w H h f (LamO f ob) :=
  ⟨e, ⟨ob, e⟩, fun h1 h2 p st => st _ p⟩
theorem pe_lamT {X : Cx} {c P : Addr} {params : Arguments} {body : Expr} {scope : Scope} {pos : Pos} (TB : LamX.TabB X.base X.mg c P) (hcode : X.env.code = .ref c)
    (hm : (P, X.env.qual ++ ("<lambda>" : Str)) ∈ tabT X.K) (hu : ∀ p ∈ tabT X.K, p.1 = P → p.2 = X.env.qual ++ ("<lambda>" : Str)) (hdef : defaultsOf params X.env = ([], [])) (hfree : ∀ y ∈ scope.names, y.2 = .free → X.env.kindOf y.1 = some .cell ∨ X.env.kindOf y.1 = some .free) :
    PE X (.Lambda params body scope pos) (tLamT X.K (X.env.qual ++ ("<lambda>" : Str)) X.env.cells params body scope) := by
  refine ⟨fun pins s σ H Q I h => ?_⟩
  obtain ⟨hT, h⟩ := h
  obtain ⟨ps, hP, ht, ha⟩ := hT _ hm
  have hP' : s.heap.get? P = some { cls := .none, data := .fields ps } := I.hok P _ hP
  have bP := TB.bm.keeps I.bk
  have hfree' : ∀ y ∈ scope.names, y.2 = .free → ∃ c, X.env.cells.lookup y.1 = some c := fun y hy e => I.ok.has _ (hfree y hy e)
  refine PySem.W.kla_eval hdef ?_
  cases hc : codeAmong pos ps.toList with
  | some cv =>
    obtain ⟨c', e, hco⟩ := ha pos cv hc
    subst e
    refine PySem.W.kla_makeFunctionHit (mg := X.mg) (c := c) (P := P) (ps := ps) (closure_ok hfree') I.ok.glob (I.mod.glob.keeps I.bk) hcode (TB.code.keeps I.bk) hP' ht hc bP fun ctv h' tk hx hsz => ?_
    have hf : H h'.objs.size = none := I.hok.fresh hsz
    exact ⟨.ref h'.objs.size, _, I.laid (t' := tk) (fun b o e => Heap.get?_push_of_some _ (hx b o e)) hsz (lamO_ok (Heap.get?_push_size _ rfl)), rfl, h _ c' _ ctv H (fun _ _ e _ => e) (fun a o e => ⟨o, e⟩) hT hf hco⟩
  | none =>
    refine PySem.W.kla_makeFunction (mg := X.mg) (c := c) (P := P) (ps := ps) (closure_ok hfree') I.ok.glob (I.mod.glob.keeps I.bk) hcode (TB.code.keeps I.bk) hP' ht hc TB.gP bP fun c' ctv h' tk hx hge hlt hrec htb => ?_
    obtain ⟨c2, oc, vs, t, e2, hoc, hd, hv⟩ := hrec
    cases e2
    have hsz : s.heap.objs.size ≤ h'.objs.size := Nat.le_trans hge (Nat.le_of_lt hlt)
    have nC : H c' = none := I.hok.fresh hge
    have cP : c' ≠ P := fun z => by rw [z, hP] at nC; cases nC
    have I1 : Inv X pins σ _ { s with heap := h', toks := tk } := LamX.inv_table (q := X.env.qual ++ ("<lambda>" : Str)) (t' := tk) (more := #[rawInt pos.line, rawInt pos.col, .ref c']) (h' := h') I hP
      (fun b o hb e => hx b o hb e) htb hge ⟨oc, vs, t, hoc, hd, hv⟩
    have hf : (upd (upd H P (.tbl (ps ++ #[rawInt pos.line, rawInt pos.col, .ref c']))) c' (LamX.CodeO c' (X.env.qual ++ ("<lambda>" : Str)))) h'.objs.size = none := I1.hok.fresh (Nat.le_refl _)
    have st : ∀ a o, H a = some o → nTb o → (upd (upd H P (.tbl (ps ++ #[rawInt pos.line, rawInt pos.col, .ref c']))) c' (LamX.CodeO c' (X.env.qual ++ ("<lambda>" : Str)))) a = some o := fun a o e n => by
      rw [upd_ne (ne_of_none e nC), upd_ne (fun z => n ps (by rw [z, hP] at e; exact (Option.some.inj e).symm))]
      exact e
    have I2 := I1.laid (a := h'.objs.size) (t' := tk) (fun b o e => Heap.get?_push_of_some (PySem.W.kla_obj "<lambda>" (X.env.qual ++ ("<lambda>" : Str)) params body scope (cloFrom X.env.cells scope.names []) ((X.mg "__name__").getD .none) c' ctv) e) (Nat.le_refl _) (lamO_ok (Heap.get?_push_size _ rfl))
    refine ⟨.ref h'.objs.size, _, I2, rfl, h _ c' _ ctv _ st (fun a o e => ?_) (fun p hp => ?_) hf upd_same⟩
    · by_cases z : a = P
      · rw [z]; exact ⟨_, by rw [upd_ne (Ne.symm cP), upd_same]⟩
      · exact ⟨o, by rw [upd_ne (ne_of_none e nC), upd_ne z]; exact e⟩
    · have keepC : ∀ cv, (∃ c0, cv = Value.ref c0 ∧ H c0 = some (LamX.CodeO c0 p.2)) → ∃ c0, cv = Value.ref c0 ∧ (upd (upd H P (.tbl (ps ++ #[rawInt pos.line, rawInt pos.col, .ref c']))) c' (LamX.CodeO c' (X.env.qual ++ ("<lambda>" : Str)))) c0 = some (LamX.CodeO c0 p.2) := fun cv ⟨c0, e1, e2⟩ => ⟨c0, e1, st _ _ e2 fun _ => LamX.codeO_ne _⟩
      by_cases hb : p.1 = P
      · rw [hb]
        refine ⟨_, by rw [upd_ne (Ne.symm cP), upd_same], ?_, fun p' cv hcv => ?_⟩
        · rw [Array.toList_append]; exact PySem.TriplesOk_snoc _ _ _ _ ht
        · rw [Array.toList_append] at hcv
          rcases LamX.among_app _ ht hcv with z | z
          · exact keepC cv (by rw [hu p hp hb]; exact ha p' cv z)
          · exact ⟨c', z, by rw [hu p hp hb]; exact upd_same⟩
      · obtain ⟨ps', a1, a2, a3⟩ := hT p hp
        exact ⟨ps', by rw [upd_ne (ne_of_none a1 nC), upd_ne hb]; exact a1, a2, fun p' cv hcv => keepC cv (a3 p' cv hcv)⟩

/-! ### a body whose last statement hands back: the slots are told too -/
abbrev TR := (V → St → Hp → Prop) → St → Hp → Prop
def RP (X : Cx) (pins : List (Addr × Obj)) (Q : V → St → Hp → Prop) (fl : Flow) (s' : Shared) : Prop := ∃ u v σ' H', fl = .ret u ∧ Inv X pins σ' H' s' ∧ RelV v u ∧ Q v σ' H'
structure PR (X : Cx) (sts : List Stmt) (t : TR) : Prop where
  run : ∀ (pins : List (Addr × Obj)) (s : Shared) (σ : St) (H : Hp) (Q : V → St → Hp → Prop), Inv X pins σ H s → t Q σ H → wpAny (model X.prog X.w) X.A (execs sts X.env) (RP X pins Q) X.xe s
section
variable {X : Cx} {st : Stmt} {rest : List Stmt} {t : TS} {u : TR} {e : Expr} {te : TE} {pos : Pos}
theorem pr_ret (he : PE X e te) : PR X [.Return (some e) pos] (fun Q σ H => te σ H fun v H' => Q v σ H') := by
  refine ⟨fun pins s σ H Q I h => ?_⟩
  refine wpAny_execs_cons (wpAny_Return_some (thn (he.run pins s σ H _ I h) fun v s1 ⟨x, H1, I1, r1, q1⟩ => ⟨v, x, σ, H1, rfl, I1, r1, q1⟩))
theorem pr_cons (h1 : PS X st t) (h2 : PR X rest u) : PR X (st :: rest) (fun Q σ H => t { nx := fun σ' H' => u Q σ' H', rt := fun _ _ => False } σ H) := by
  refine ⟨fun pins s σ H Q I h => ?_⟩
  refine wpAny_execs_cons (thn (h1.run pins s σ H _ I h) fun f s1 q => ?_)
  cases f with
  | next =>
    obtain ⟨σ', H', I', q⟩ := q
    exact h2.run pins s1 σ' H' Q I' q
  | ret v => obtain ⟨_, _, _, _, _, q⟩ := q; exact q.elim
  | brk => obtain ⟨_, _, _, q⟩ := q; exact q.elim
  | cont => obtain ⟨_, _, _, q⟩ := q; exact q.elim
end
end HD
end
section
/-! The data layer: what calling a lambda tells, by its reading. -/
namespace HD
open PySem PySem.Spec L2
open PyProof.Rows hiding St

/-- a lambda without parameters, as it is written -/
structure LamI where
  params : Arguments
  body : Expr
  scope : Scope
/-- the value at f is such a lambda; its cells bear the slots σ of the names N -/
def LamV (H : Hp) (q : Str) (L : LamI) (N : List Str) (σ : St) (f : Addr) (cl : List (Str × Addr)) : Prop := ∃ c' pm ctv, H f = some (LamO f (PySem.W.kla_obj "<lambda>" q L.params L.body L.scope cl pm c' ctv)) ∧ H c' = some (LamX.CodeO c' q) ∧ CellsAt H N σ cl ∧
  (∀ y ∈ L.scope.names, y.2 = .free → ∃ c, cl.lookup y.1 = some c)
theorem LamV.stay {H H' : Hp} {q : Str} {L : LamI} {N : List Str} {σ : St} {f : Addr} {cl : List (Str × Addr)} (v : LamV H q L N σ f cl) (e : ∀ a φ, H a = some (.ext φ) → H' a = some (.ext φ)) : LamV H' q L N σ f cl := by
  obtain ⟨c', pm, ctv, h1, h2, h3, h4⟩ := v
  refine ⟨c', pm, ctv, e _ _ h1, e _ _ h2, ⟨h3.inj, fun x c hm => ?_⟩, h4⟩
  obtain ⟨i, v, u, a1, a2, a3, a4⟩ := h3.bear x c hm
  exact ⟨i, v, u, a1, a2, a3, e _ _ a4⟩
theorem Gr.ext {K : PySem.W.Frag} {r : Option Addr} {H G H' G' : Hp} {rw : Rw} (g : Gr K r H G H' G') (w : RowOk K r rw H G) {a : Addr} {φ : Heap → Prop} (h : H a = some (.ext φ)) : H' a = some (.ext φ) := by
  refine g.h a _ h (fun e => ?_) fun _ z => nomatch z
  unfold RowOk at w
  rw [e] at w
  cases rw with
  | none => exact w.elim
  | some x => obtain ⟨_, v, h2, _⟩ := w; rw [h] at h2; cases h2
theorem Gr.gnone {K : PySem.W.Frag} {r : Option Addr} {H G H' G' : Hp} (g : Gr K r H G H' G') {a : Addr} {o : HO} (h : H a = some o) (n : G a = none) : G' a = none := by
  cases q : G' a with
  | none => rfl
  | some u =>
    rcases g.n a u q with z | ⟨z, _⟩
    · rw [n] at z; cases z
    · rw [h] at z; cases z
section
variable {P : Program} {w : World} {K : PySem.W.Frag} {r : Option Addr} {rw rw' : Rw} {H G H' G' : Hp} {h : Heap} {C : List Addr}
theorem tabs_hid {T : List (Addr × Str)} (hok : HOk P w H h) (Cs : ∀ c ∈ C, ∃ u, H c = some (CellO c u)) (t : LamX.Tabs T H) : LamX.Tabs T (hid C H) := fun p hp => by
  obtain ⟨ps, h1, h2, h3⟩ := t p hp
  refine ⟨ps, ?_, h2, fun pos cv hc => ?_⟩
  · rw [hid_out fun hC => by obtain ⟨u, z⟩ := Cs _ hC; rw [h1] at z; cases z]; exact h1
  · obtain ⟨c, e1, e2⟩ := h3 pos cv hc
    refine ⟨c, e1, ?_⟩
    rw [hid_out fun hC => ?_]
    · exact e2
    obtain ⟨u, z⟩ := Cs _ hC
    obtain ⟨⟨oc, vs, t, a1, a2, a3⟩, _⟩ := hok c _ e2
    obtain ⟨⟨o, b1, b2⟩, _⟩ := hok c _ z
    rw [a1] at b1; cases b1
    rw [a2] at b2; cases b2
theorem rowOk_hid (Cs : ∀ c ∈ C, ∃ u, H c = some (CellO c u)) (x : RowOk K r rw H G) : RowOk K r rw (hid C H) G := by
  unfold RowOk at x ⊢
  cases r with
  | none => cases rw <;> exact x
  | some a =>
    cases rw with
    | none => exact x
    | some y =>
      obtain ⟨h1, v, h2, h3⟩ := x
      exact ⟨h1, v, by rw [hid_out fun hC => by obtain ⟨u, z⟩ := Cs _ hC; rw [h2] at z; cases z]; exact h2, h3⟩
theorem same_hid (Cs : ∀ c ∈ C, G c = none) (s : Same G H) : Same G (hid C H) := fun a o e => by
  rw [hid_out fun hC => by rw [Cs a hC] at e; cases e]; exact s a o e
theorem same_ovl (no : ∀ a ∈ C, H' a = none) : Same H' (ovl C H H') := fun a o e => by
  rw [ovl_out fun hC => by rw [no a hC] at e; cases e]; exact e
theorem gr_ovl (hok : HOk P w H h) (Cs : ∀ c ∈ C, ∃ u, H c = some (CellO c u)) (no : ∀ a ∈ C, H' a = none) (g : Gr K r (hid C H) G H' G') : Gr K r H G (ovl C H H') G' where
  h := fun a o e ne nt => by
    by_cases q : a ∈ C
    · rw [ovl_in q]; exact e
    · rw [ovl_out q]; exact g.h a o (by rw [hid_out q]; exact e) ne nt
  g := g.g
  n := fun a o e => by
    rcases g.n a o e with z | ⟨z, nt⟩
    · exact .inl z
    · by_cases q : a ∈ C
      · have := g.s a o e
        rw [no a q] at this; cases this
      · rw [hid_out q] at z; exact .inr ⟨z, nt⟩
  s := g.s.trans (same_ovl no)
  t := fun a o e => by
    by_cases q : a ∈ C
    · exact ⟨o, by rw [ovl_in q]; exact e⟩
    · rw [ovl_out q]; exact g.t a o (by rw [hid_out q]; exact e)
  tb := fun t => (g.tb (tabs_hid hok Cs t)).ext (same_ovl no)
theorem rowT_ovl (no : ∀ a ∈ C, H' a = none) (x : RowT K r rw H' G') : RowT K r rw (ovl C H H') G' :=
  ⟨x.t.ext (same_ovl no), x.w.grow (same_ovl no) (Same.refl _) fun a o e => .inl e, x.g⟩
theorem ExAt.same {mg : Str → Option Value} {x : Exn} {cls : Value} {d : Option Addr} (e : ExAt mg x cls d H) (s : Same H H') : ExAt mg x cls d H' := by
  obtain ⟨C, h1, h2, h3⟩ := e
  refine ⟨C, h1, h2, ?_⟩
  cases x with
  | ask => trivial
  | web w => obtain ⟨dd, fs, a, b, c⟩ := h3; exact ⟨dd, fs, a, s _ _ b, c⟩
  | log w => obtain ⟨dd, fs, a, b, c⟩ := h3; exact ⟨dd, fs, a, s _ _ b, c⟩
  | text w => obtain ⟨dd, fs, a, b, c⟩ := h3; exact ⟨dd, fs, a, s _ _ b, c⟩
end
/-- a lambda of the text and its reading, by the slots of N -/
structure LamOk (P : Program) (w : World) (K : PySem.W.Frag) (mg : Str → Option Value) (base : Heap) (k : Nat) (q : Str) (N : List Str) (L : LamI) (g : EM D) : Prop where
  z : LamZ L.scope
  bind : ∀ cl pm cd ctv, bindArgs (PySem.W.kla_fn "<lambda>" q L.params L.body L.scope cl pm cd ctv) ⟨[], []⟩ = pure []
  body : ∀ (f c' : Addr) (cl : List (Str × Addr)) (A : Around) (outer : List Env) (s : Shared) (H : Hp) (E : XK), Room k (A.deeper (lamEnvY q cl L.scope s.heap.objs.size f c')) → DE (lamCy P w K mg base N q cl A outer s H E L.scope f c') (wdOf mg fun cls d _ H => E cls d H) L.body g
/-- what calling a value tells: it is the lambda number k of a list -/
def zD (K : PySem.W.Frag) (mg : Str → Option Value) (q : Str) (N : List Str) (Ls : List LamI) (gs : List (EM D)) : ZP := fun f H Q E => ∃ (k : Nat) (L : LamI) (g : EM D) (cl : List (Str × Addr)) (ds : List D) (vs : List V) (r : Option Addr) (G : Hp) (rw : Rw),
  Ls[k]? = some L ∧ gs[k]? = some g ∧ ds.length = N.length ∧ LamV H q L N (L2.start N vs) f cl ∧ Same G H ∧ (∀ c ∈ adrs cl, G c = none) ∧ Reps K r G ds vs ∧ RowT K r rw H G ∧ FPost K false (xwL mg) r H G (g (ds.map .val ++ List.replicate (N.length - N.length) .no) rw) Q E
theorem paired_get {α β : Type} {F : α → β → Prop} : ∀ {xs : List α} {ys : List β} {k : Nat} {x : α} {y : β}, Paired F xs ys → xs[k]? = some x → ys[k]? = some y → F x y
  | _, _, _, _, _, .nil, h, _ => by simp at h
  | _, _, 0, _, _, .cons a _, h, h' => by simp at h h'; subst h h'; exact a
  | _, _, k + 1, _, _, .cons _ t, h, h' => paired_get (k := k) t (by simpa using h) (by simpa using h')
theorem zD_run {P : Program} {w : World} {K : PySem.W.Frag} {mg : Str → Option Value} {base : Heap} {k : Nat} {q : Str} {N : List Str} {Ls : List LamI} {gs : List (EM D)} (hN : N.Nodup) (hL : Paired (LamOk P w K mg base k q N) Ls gs) : ZRun P w K mg base (k + 1) (zD K mg q N Ls gs) := by
  rintro f A outer s H Q E hr e0 ⟨i, L, g, cl, ds, vs, r, G, rw, h1, h2, hl, hv, sub, hG, hR, hw, hp⟩
  have ok := paired_get hL h1 h2
  obtain ⟨c', pm, ctv, a1, a2, a3, a4⟩ := hv
  have of1 : s.heap.get? f = some (PySem.W.kla_obj "<lambda>" q L.params L.body L.scope cl pm c' ctv) := (e0.hok f _ a1).1
  refine ⟨⟨_, _, _, _, of1⟩, ?_⟩
  have Cs : ∀ c ∈ adrs cl, ∃ u, H c = some (CellO c u) := fun c hc => by
    obtain ⟨⟨x, c⟩, hm, rfl⟩ := List.mem_map.mp hc
    obtain ⟨_, _, u, _, _, _, h4⟩ := a3.bear x c hm
    exact ⟨u, h4⟩
  have hw2 : RowT K r rw (hid (adrs cl) H) G := ⟨tabs_hid e0.hok Cs hw.t, rowOk_hid Cs hw.w, hw.g⟩
  have hlv := hR.length
  refine lam_run (k := k) (tb := fun E => tD K (wdOf mg fun cls d _ H => E cls d H) g) ok.z a4 e0 hr hN ?_ a1 a2 a3 (ok.bind cl pm (.ref c') ctv) (fun A outer s H E hr2 => ok.body f c' cl A outer s H E hr2) ?_
  · unfold L2.start
    simp
    omega
  refine ⟨⟨r, hid (adrs cl) H, G⟩, _, rw, G, SR.start (same_hid hG sub) hR hw2 hl, ?_⟩
  cases e : g (ds.map .val ++ List.replicate (N.length - N.length) .no) rw with
  | stuck => rw [e] at hp; exact hp.elim
  | exc x rw' =>
    rw [e] at hp
    intro H' G' S' cls d hx no
    exact hp (ovl (adrs cl) H H') G' (gr_ovl e0.hok Cs no (S'.gr hw2)) (rowT_ovl no ⟨S'.tabs, S'.row, S'.gt⟩) cls d (hx.same (same_ovl no))
  | ok p =>
    obtain ⟨d, rw'⟩ := p
    rw [e] at hp
    intro v H' G' S' g' r' no
    exact hp v (ovl (adrs cl) H H') G' (gr_ovl e0.hok Cs no g') (rowT_ovl no ⟨S'.tabs, S'.row, S'.gt⟩) (by unfold FRet; rw [if_neg Bool.false_ne_true]; exact r')
end HD
end
section
/-! The data layer: a def that hands lambdas back: its cells are tracked from then on. -/
namespace HD
open PySem PySem.Spec L2
open PyProof.Rows hiding St

/-- the cells at L, of which val tells what they hold, are tracked too -/
def trkC (L : List Addr) (val : Addr → Option Value) (H : Hp) : Hp := fun a => if a ∈ L then (match val a with
  | some u => some (CellO a u)
  | none => none) else H a
def cellVal (h : Heap) (a : Addr) : Option Value := (h.get? a).bind fun o => match o.data with
  | .cell v => v
  | _ => none
theorem cellVal_ok {h : Heap} {a : Addr} {u : Value} (e : cellVal h a = some u) : h.IsCell a (some u) := by
  unfold cellVal at e
  cases q : h.get? a with
  | none => rw [q] at e; cases e
  | some o =>
    rw [q] at e
    replace e : (match o.data with
      | .cell v => v
      | _ => none) = some u := e
    split at e
    · rename_i v hd
      subst e
      exact ⟨o, q, hd⟩
    · cases e
theorem cellVal_of {h : Heap} {a : Addr} {u : Value} (e : h.IsCell a (some u)) : cellVal h a = some u := by
  obtain ⟨o, q, hd⟩ := e
  unfold cellVal
  rw [q]
  show (match o.data with
      | .cell v => v
      | _ => none) = some u
  rw [hd]
section
variable {L : List Addr} {val : Addr → Option Value} {H H' : Hp} {a : Addr} {o : HO}
theorem trkC_out (h : a ∉ L) : trkC L val H a = H a := by unfold trkC; rw [if_neg h]
theorem trkC_in {u : Value} (h : a ∈ L) (e : val a = some u) : trkC L val H a = some (CellO a u) := by unfold trkC; rw [if_pos h, e]
theorem trkC_keep (no : ∀ c ∈ L, H c = none) (e : H a = some o) : trkC L val H a = some o := by
  rw [trkC_out fun h => by rw [no a h] at e; cases e]; exact e
theorem trkC_some (e : trkC L val H a = some o) : (∃ u, a ∈ L ∧ val a = some u ∧ o = CellO a u) ∨ (a ∉ L ∧ H a = some o) := by
  by_cases h : a ∈ L
  · unfold trkC at e
    rw [if_pos h] at e
    cases q : val a with
    | none => rw [q] at e; cases e
    | some u => rw [q] at e; cases e; exact .inl ⟨u, h, rfl, rfl⟩
  · rw [trkC_out h] at e; exact .inr ⟨h, e⟩
end
section
variable {P : Program} {w : World} {K : PySem.W.Frag} {mg : Str → Option Value} {base : Heap}
/-- THE RULE: a def by its body, whose last statement hands back; xs: the names whose cells are told -/
theorem fn_ofT {k : Nat} {f : Addr} {name qual : Str} {params : Arguments} {body : List Stmt} {scope : Scope} {dV kV doc pm cdv ct oc : Value} {an od : Option Addr}
    {osl : Array (Option Value)} {N ps : List Str} {sp : Sp} (xs : List Str) (lk : K.lookup f = some ⟨oc, od, .func (PySem.W.fnOf name qual params body scope dV kV doc pm an cdv ct), osl⟩) (hcd : PySem.W.codeIn K cdv qual = true) (S : FnScope N ps scope)
    (len : ∀ vs H Q E, sp vs H Q E → vs.length = ps.length) (hxs : ∀ x ∈ xs, scope.names.lookup x = some .cell)
    (hbody : ∀ (A : Around) (outer : List Env) (s : Shared) (H : Hp) (vs : List V) (Q : VK) (E : XK), Room k (A.deeper (envOfC qual scope s.heap.objs.size f cdv)) → sp vs H Q E →
      ∃ t, PR (cxOf CXF P w K mg base N qual scope f cdv A outer s H E) body t ∧ t (fun v σ' H' => ∀ val : Addr → Option Value, (∀ x c, (cellsFrom (s.heap.objs.size + 1) scope.names []).lookup x = some c → H c = none ∧ H' c = none) →
          (∀ x ∈ xs, ∃ c, (cellsFrom (s.heap.objs.size + 1) scope.names []).lookup x = some c ∧ ∀ (i : Nat) (v : V), N[i]? = some x → σ'[i]? = some (some v) → ∃ u, RelV v u ∧ val c = some u) →
          (∀ x y c, (cellsFrom (s.heap.objs.size + 1) scope.names []).lookup x = some c → (cellsFrom (s.heap.objs.size + 1) scope.names []).lookup y = some c → x = y) →
          Q v (trkC (xs.filterMap fun x => (cellsFrom (s.heap.objs.size + 1) scope.names []).lookup x) val H')) (start N vs) H) :
    FnOk P w K mg base CXF (k + 1) f (PySem.W.fnOf name qual params body scope dV kV doc pm an cdv ct) ps sp := by
  refine ⟨len, fun A outer s H args us vs Q E hr e0 hb r hsp => ?_⟩
  have hl := len _ _ _ _ hsp
  have KX : K.In s.heap := e0.mod.kin.keeps fun b o e => (e0.bs b o e).1
  have lim : s.heap.NoLimit := e0.mod.nolimit.keeps fun b o e => (e0.bs b o e).1
  have hkind : ∀ y ∈ ps.zip us, scope.names.lookup y.1 = some .local ∨ (scope.names.lookup y.1 = some .cell ∧ ((cellsFrom (s.heap.objs.size + 1) scope.names []).lookup y.1).isSome = true) := fun ⟨n, v⟩ hy => by
    rcases S.par n (List.of_mem_zip hy).1 with q | q
    · exact .inl q
    · exact .inr ⟨q, PySem.W.cellsFrom_some _ _ _ (.inl q)⟩
  refine codeAny_call_function hr.depth (KX _ _ lk) rfl S.co S.gen rfl (PySem.W.codeRec_of KX hcd) (hb _ _ _ _ ?_)
  refine wpAny_newFunctionEnv_cells S.kind hkind fun env he s1 x => ?_
  subst he
  refine ⟨lim.keeps x.toInCall.keep, codeAny_func ?_⟩
  obtain ⟨t, ht, hq⟩ := hbody A outer s H vs Q E (hr.deeper _) hsp
  have I : Inv (cxOf CXF P w K mg base N qual scope f cdv A outer s H E) [] (start N vs) H s1 := inv_start S hr.hd e0 hl r x
  refine wpAny_mono (ht.run [] s1 (start N vs) H _ I hq) (fun fl s' hs => ?_) fun e s' hs => hs
  obtain ⟨u, v, σ', H', rfl, J, rv, q⟩ := hs
  generalize hcells : cellsFrom (s.heap.objs.size + 1) scope.names [] = cells at q
  have ecl : (cxOf CXF P w K mg base N qual scope f cdv A outer s H E).env.cells = cells := hcells
  have inL : ∀ c, c ∈ (xs.filterMap fun x => cells.lookup x) → ∃ x ∈ xs, cells.lookup x = some c := fun c hc => by
    obtain ⟨x, hx, e⟩ := List.mem_filterMap.mp hc
    exact ⟨x, hx, e⟩
  have no : ∀ c ∈ (xs.filterMap fun x => cells.lookup x), H' c = none := fun c hc => by
    obtain ⟨x, hx, e⟩ := inL c hc
    exact J.freeC x c (by rw [ecl]; exact e)
  have new : ∀ x c, cells.lookup x = some c → s.heap.objs.size ≤ c := fun x c e => J.ok.cab x c rfl (by rw [ecl]; exact e)
  have q1 := q (cellVal s'.heap) (fun x c e => ⟨e0.hok.fresh (new x c e), J.freeC x c (by rw [ecl]; exact e)⟩) (fun x hx => ?_) (fun x y c e1 e2 => J.ok.inj x y c (by rw [ecl]; exact e1) (by rw [ecl]; exact e2))
  · refine ⟨v, _, J.os, J.bare, ?_, ?_, rv, q1⟩
    · have un := J.base
      refine ⟨un.keep, un.slot, fun b o e n hx => ?_, un.there, fun b ys e => trkC_keep no (un.tups b ys e), fun b o ys e => trkC_keep no (un.frzs b o ys e), fun b ps e => ?_⟩
      · rw [trkC_out fun hc => ?_]
        · exact un.free b o e n hx
        · obtain ⟨x, hx, e2⟩ := inL b hc
          exact absurd (Heap.lt_size e) (Nat.not_lt.mpr (new x b e2))
      · obtain ⟨m, e2⟩ := un.tbls b ps e
        exact ⟨m, trkC_keep no e2⟩
    · intro b ob e
      rcases trkC_some e with ⟨u', hc, hv, rfl⟩ | ⟨hc, e2⟩
      · have ic := cellVal_ok hv
        refine ⟨ic, ?_, fun h1 h2 p st => ?_⟩
        · obtain ⟨o, ho, _⟩ := ic; exact ⟨o, ho⟩
        · obtain ⟨o, ho, hd⟩ := p; exact ⟨o, st _ ho, hd⟩
      · exact (J.hok b ob e2).stay (fun _ _ _ z => z) (fun c z => trkC_keep no z) fun c ys z => trkC_keep no z
  · obtain ⟨c, e⟩ := cell_has (n := s.heap.objs.size + 1) (hxs x hx)
    rw [hcells] at e
    refine ⟨c, e, fun i vv h1 h2 => ?_⟩
    obtain ⟨m, hn, hl⟩ := J.loc
    obtain ⟨u', r', lk'⟩ := hl i x vv h1 h2 (.inr (.inl (hxs x hx)))
    rcases lk' with ⟨k', _⟩ | ⟨_, c', e', z⟩
    · have k' : scope.names.lookup x = some .local := k'
      rw [hxs x hx] at k'; cases k'
    · rw [ecl, e] at e'
      cases e'
      exact ⟨u', r', cellVal_of z⟩
end
end HD
end
section
/-! The data layer: a def that makes a list of lambdas, one behind the other, and hands it back. -/
namespace HD
open PySem PySem.Spec L2
open PyProof.Rows hiding St

/-- a def of the text that keeps a promise of its own -/
structure CalZ (P : Program) (w : World) (K : PySem.W.Frag) (mg : Str → Option Value) (base : Heap) (x : Str) (k : Nat) (ps : List Str) (sp : Sp) : Prop where
  ex : ∃ (a : Addr) (fd : FuncData), FnOk P w K mg base CXF k a fd ps sp ∧ mg x = some (.ref a) ∧ PySem.W.keepIn K (.ref a) = true ∧ Binds K fd ps []
/-- what such a def leaves -/
structure WorksOut (K : PySem.W.Frag) (q : Str) (N : List Str) (Ls : List LamI) (vs : List V) (H H' : Hp) (p : Addr) : Prop where
  st : ∀ a o, H a = some o → nTb o → H' a = some o
  th : ∀ a o, H a = some o → ∃ o', H' a = some o'
  tb : LamX.Tabs (tabT K) H'
  new : H p = none
  lst : ∃ fs : List Addr, H' p = some (.lst (fs.map V.ref)) ∧ fs.length = Ls.length ∧ ∀ (k : Nat) (f : Addr) (L : LamI), fs[k]? = some f → Ls[k]? = some L → ∃ cl, LamV H' q L N (L2.start N vs) f cl ∧ ∀ c ∈ adrs cl, H c = none
def spWorks (K : PySem.W.Frag) (q : Str) (N : List Str) (Ls : List LamI) : Sp := fun vs H Q _ => vs.length = N.length ∧ LamX.Tabs (tabT K) H ∧ ∀ p H', WorksOut K q N Ls vs H H' p → Q (.ref p) H'
/-- amid: the list at p, the cells not told yet -/
structure WkS (K : PySem.W.Frag) (q : Str) (cells : List (Str × Addr)) (H0 H : Hp) (p : Addr) (Ls : List LamI) : Prop where
  st : ∀ a o, H0 a = some o → nTb o → H a = some o
  th : ∀ a o, H0 a = some o → ∃ o', H a = some o'
  tb : LamX.Tabs (tabT K) H
  new : H0 p = none
  lst : ∃ fs : List Addr, H p = some (.lst (fs.map V.ref)) ∧ fs.length = Ls.length ∧ ∀ (k : Nat) (f : Addr) (L : LamI), fs[k]? = some f → Ls[k]? = some L →
    ∃ c' pm ctv, H f = some (LamO f (PySem.W.kla_obj "<lambda>" q L.params L.body L.scope (cloFrom cells L.scope.names []) pm c' ctv)) ∧ H c' = some (LamX.CodeO c' q)
abbrev tL (K : PySem.W.Frag) (q : Str) (cells : List (Str × Addr)) (L : LamI) : TE := tLamT K q cells L.params L.body L.scope
def tWk (K : PySem.W.Frag) (q : Str) (cells : List (Str × Addr)) (j : Nat) : List LamI → TR
  | [] => fun Q σ H => tVar j σ H fun v H' => Q v σ H'
  | L :: Ls => fun Q σ H => tDrop (tBM K "list" rAppend (tVar j) (tCons (tL K q cells L) tNil)) { nx := fun σ' H' => tWk K q cells j Ls Q σ' H', rt := fun _ _ => False } σ H
def tWk0 (K : PySem.W.Frag) (q : Str) (cells : List (Str × Addr)) (j : Nat) (L : LamI) (Ls : List LamI) : TR := fun Q σ H => tAsg (tLst (tCons (tL K q cells L) tNil)) (gName j) { nx := fun σ' H' => tWk K q cells j Ls Q σ' H', rt := fun _ _ => False } σ H
section
variable {K : PySem.W.Frag} {q : Str} {cells : List (Str × Addr)}
theorem lamO_nl {f : Addr} {ob : Obj} {xs : List V} : LamO f ob ≠ .lst xs := fun z => nomatch z
theorem lamO_nTE {f : Addr} {ob : Obj} : nTb (LamO f ob) := fun _ z => nomatch z
theorem codeO_nTE {f : Addr} {q : Str} : nTb (LamX.CodeO f q) := fun _ z => nomatch z
theorem wk_step {H0 H : Hp} {p : Addr} {Ls : List LamI} {L : LamI} {j : Nat} {D : Ends} {σ : St} (S : WkS K q cells H0 H p Ls) (hz : Ls.length < 1000) (hσ : σ[j]? = some (some (.ref p))) (h : ∀ H1, WkS K q cells H0 H1 p (Ls ++ [L]) → D.nx σ H1) :
    tDrop (tBM K "list" rAppend (tVar j) (tCons (tL K q cells L) tNil)) D σ H := by
  obtain ⟨fs, e1, e2, e3⟩ := S.lst
  refine ⟨.ref p, hσ, .inl ⟨rfl, _, .of e1⟩, S.tb, fun f c' pm ctv H1 k1 k2 T1 hf hco => ?_⟩
  have hp1 : H1 p = some (.lst (fs.map V.ref)) := k1 _ _ e1 fun _ z => nomatch z
  have pf : p ≠ f := ne_of_none hp1 hf
  have hp2 : upd H1 f (LamO f (PySem.W.kla_obj "<lambda>" q L.params L.body L.scope (cloFrom cells L.scope.names []) pm c' ctv)) p = some (.lst (fs.map V.ref)) := by rw [upd_ne pf]; exact hp1
  refine ⟨p, _, .ref f, rfl, rfl, hp2, by rw [sizeLine_eq, List.length_map, e2]; omega, h _ ?_⟩
  have stay : ∀ a o, H1 a = some o → o ≠ .lst (fs.map V.ref) → upd (upd H1 f (LamO f (PySem.W.kla_obj "<lambda>" q L.params L.body L.scope (cloFrom cells L.scope.names []) pm c' ctv))) p (.lst (fs.map V.ref ++ [.ref f])) a = some o := fun a o e n => by
    rw [upd_ne fun z => n (by rw [z, hp1] at e; exact (Option.some.inj e).symm), upd_ne (ne_of_none e hf)]
    exact e
  refine ⟨fun a o e nt => ?_, fun a o e => ?_, ?_, S.new, fs ++ [f], ?_, by simp [e2], fun k g M hk hM => ?_⟩
  · have e4 := k1 _ _ (S.st a o e nt) nt
    rw [upd_ne (ne_of_none e S.new), upd_ne (ne_of_none e4 hf)]
    exact e4
  · obtain ⟨o', e4⟩ := S.th a o e
    obtain ⟨o2, e5⟩ := k2 _ _ e4
    exact ⟨o2, by rw [upd_ne (ne_of_none e S.new), upd_ne (ne_of_none e5 hf)]; exact e5⟩
  · exact TabR.put (fun u e => by rw [hp2] at e; cases e; exact nTE_lst) (TabR.new hf T1)
  · rw [upd_same, List.map_append]; rfl
  · by_cases hlt : k < fs.length
    · rw [List.getElem?_append_left hlt] at hk
      rw [List.getElem?_append_left (by omega)] at hM
      obtain ⟨c2, pm2, ct2, a1, a2⟩ := e3 k g M hk hM
      exact ⟨c2, pm2, ct2, stay _ _ (k1 _ _ a1 lamO_nTE) lamO_nl, stay _ _ (k1 _ _ a2 codeO_nTE) fun z => nomatch z⟩
    · have hk' : k = fs.length := by
        have := (List.getElem?_eq_some_iff.mp hk).1
        simp at this
        omega
      subst hk'
      rw [List.getElem?_append_right (Nat.le_refl _)] at hk
      rw [List.getElem?_append_right (by omega)] at hM
      simp [e2] at hk hM
      subst hk hM
      exact ⟨c', pm, ctv, by rw [upd_ne (Ne.symm pf)]; exact upd_same, stay _ _ hco fun z => nomatch z⟩
theorem wk_all {H0 : Hp} {p : Addr} {j : Nat} {Q : V → St → Hp → Prop} {σ : St} (hσ : σ[j]? = some (some (.ref p))) : ∀ (Ms Ls : List LamI) (H : Hp), WkS K q cells H0 H p Ls → Ls.length + Ms.length < 1000 → (∀ H1, WkS K q cells H0 H1 p (Ls ++ Ms) → Q (.ref p) σ H1) → tWk K q cells j Ms Q σ H
  | [], Ls, H, S, _, h => ⟨.ref p, hσ, h H (by rw [List.append_nil]; exact S)⟩
  | L :: Ms, Ls, H, S, hz, h => by
    refine wk_step S (by simp at hz; omega) hσ fun H1 S1 => ?_
    exact wk_all hσ Ms (Ls ++ [L]) H1 S1 (by simp at hz ⊢; omega) fun H2 S2 => h H2 (by rw [List.append_assoc] at S2; exact S2)
theorem wk_start {H0 : Hp} {j : Nat} {Q : V → St → Hp → Prop} {σ : St} {L : LamI} {Ls : List LamI} (hj : j < σ.length) (T : LamX.Tabs (tabT K) H0) (hz : Ls.length < 900) (h : ∀ p H1, WkS K q cells H0 H1 p (L :: Ls) → Q (.ref p) (σ.set j (some (.ref p))) H1) :
    tWk0 K q cells j L Ls Q σ H0 := by
  refine ⟨T, fun f c' pm ctv H1 k1 k2 T1 hf hco => ⟨by show 1 ≤ sizeLine; rw [sizeLine_eq]; decide, fun p hp => ?_⟩⟩
  have hp1 : H1 p = none := by
    by_cases z : p = f
    · rw [z]; exact hf
    · rw [upd_ne z] at hp; exact hp
  have fp : f ≠ p := fun z => by rw [z, upd_same] at hp; cases hp
  refine wk_all (by rw [List.getElem?_set_self hj]) Ls [L] _ ?_ (by simp; omega) fun H2 S2 => h p H2 S2
  refine ⟨fun a o e nt => ?_, fun a o e => ?_, TabR.new hp (TabR.new hf T1), ?_, [f], upd_same, rfl, fun k g M hk hM => ?_⟩
  · have e4 := k1 _ _ e nt
    rw [upd_ne (ne_of_none e4 hp1), upd_ne (ne_of_none e4 hf)]
    exact e4
  · obtain ⟨o2, e5⟩ := k2 _ _ e
    exact ⟨o2, by rw [upd_ne (ne_of_none e5 hp1), upd_ne (ne_of_none e5 hf)]; exact e5⟩
  · cases z : H0 p with
    | none => rfl
    | some o => obtain ⟨o', e⟩ := k2 _ _ z; rw [hp1] at e; cases e
  · cases k with
    | succ k => simp at hk
    | zero =>
      simp at hk hM
      subst hk hM
      exact ⟨c', pm, ctv, by rw [upd_ne fp]; exact upd_same, by rw [upd_ne (ne_of_none hco hp1), upd_ne (ne_of_none hco hf)]; exact hco⟩
/-- the cells are told: what is left -/
theorem wk_out {N N3 : List Str} {vs : List V} {j : Nat} {H H' : Hp} {p : Addr} {Ls : List LamI} {val : Addr → Option Value} (S : WkS K q cells H H' p Ls) (hN : N3.take N.length = N) (hj : N.length ≤ j) (hl : vs.length = N.length)
    (hL : ∀ L ∈ Ls, ∀ y ∈ L.scope.names, y.2 = .free → y.1 ∈ N) (hno : ∀ x c, cells.lookup x = some c → H c = none ∧ H' c = none) (hinj : ∀ x y c, cells.lookup x = some c → cells.lookup y = some c → x = y)
    (hval : ∀ x ∈ N, ∃ c, cells.lookup x = some c ∧ ∀ (i : Nat) (v : V), N3[i]? = some x → ((L2.start N3 vs).set j (some (.ref p)))[i]? = some (some v) → ∃ u, RelV v u ∧ val c = some u) :
    WorksOut K q N Ls vs H (trkC (N.filterMap fun x => cells.lookup x) val H') p := by
  have no : ∀ c ∈ (N.filterMap fun x => cells.lookup x), H' c = none := fun c hc => by
    obtain ⟨x, hx, e⟩ := List.mem_filterMap.mp hc
    exact (hno x c e).2
  have kp : ∀ a o, H' a = some o → trkC (N.filterMap fun x => cells.lookup x) val H' a = some o := fun a o e => trkC_keep no e
  obtain ⟨fs, e1, e2, e3⟩ := S.lst
  refine ⟨fun a o e nt => kp _ _ (S.st a o e nt), fun a o e => let ⟨o', e'⟩ := S.th a o e; ⟨o', kp _ _ e'⟩, S.tb.ext kp, S.new, fs, kp _ _ e1, e2, fun k f L hk hM => ?_⟩
  obtain ⟨c', pm, ctv, a1, a2⟩ := e3 k f L hk hM
  have hLm : L ∈ Ls := List.mem_of_getElem? hM
  have cmem : ∀ x c, (x, c) ∈ cloFrom cells L.scope.names [] → x ∈ N ∧ cells.lookup x = some c := fun x c hm => by
    rcases cloFrom_mem hm with h | ⟨h1, h2⟩
    · cases h
    · have hx := hL L hLm _ h1 rfl
      obtain ⟨c0, e, _⟩ := hval x hx
      refine ⟨hx, ?_⟩
      rw [h2, e]; rfl
  refine ⟨cloFrom cells L.scope.names [], ⟨c', pm, ctv, kp _ _ a1, kp _ _ a2, ⟨fun x y c h1 h2 => ?_, fun x c hm => ?_⟩, fun y hy ey => ?_⟩, fun c hc => ?_⟩
  · exact hinj x y c (cmem x c (PySem.mem_of_lookup h1)).2 (cmem y c (PySem.mem_of_lookup h2)).2
  · obtain ⟨hx, hlk⟩ := cmem x c hm
    obtain ⟨c0, e, hv⟩ := hval x hx
    rw [hlk] at e; cases e
    obtain ⟨i, hi, ei⟩ := List.getElem_of_mem hx
    have hNi : N[i]? = some x := by rw [List.getElem?_eq_getElem hi, ei]
    have hN3 : N3[i]? = some x := by rw [← hN, List.getElem?_take_of_lt hi] at hNi; exact hNi
    have hvi : vs[i]? = some (vs[i]'(by omega)) := List.getElem?_eq_getElem (by omega)
    have sl : ∀ M : List Str, (L2.start M vs)[i]? = some (some (vs[i]'(by omega))) := fun M => by
      unfold L2.start
      rw [List.getElem?_append_left (by rw [List.length_map]; omega), List.getElem?_map, hvi]
      rfl
    obtain ⟨u, r, hu⟩ := hv i _ hN3 (by rw [List.getElem?_set_ne (by omega)]; exact sl N3)
    exact ⟨i, _, u, hNi, sl N, r, trkC_in (List.mem_filterMap.mpr ⟨x, hx, hlk⟩) hu⟩
  · obtain ⟨a, k⟩ := y
    have ey : k = .free := ey
    subst ey
    exact mem_lookup (cloFrom_has (cells := cells) (acc := []) hy)
  · obtain ⟨⟨x, c⟩, hm, rfl⟩ := List.mem_map.mp hc
    exact (hno x c (cmem x c hm).2).1
end
section
variable {P : Program} {w : World} {K : PySem.W.Frag} {mg : Str → Option Value} {base : Heap}
theorem works_cal {x : Str} {st : Stmt} {N3 ps : List Str} {k : Nat} {c : Addr} {j : Nat} {L : LamI} {Ls : List LamI} (F : FnC K mg x st ps c) (S : FnScope N3 ps (defScope st)) (hps : ∀ y ∈ ps, (defScope st).names.lookup y = some .cell) (hj1 : ps.length ≤ j) (hj2 : j < N3.length) (hz : Ls.length < 900)
    (hL : ∀ M ∈ L :: Ls, ∀ y ∈ M.scope.names, y.2 = .free → y.1 ∈ ps)
    (hb : ∀ (f : Addr) (A : Around) (outer : List Env) (s : Shared) (H : Hp) (E : XK), Room k (A.deeper (envOfC x (defScope st) s.heap.objs.size f (.ref c))) →
      PR (cxOf CXF P w K mg base N3 x (defScope st) f (.ref c) A outer s H E) (defBody st) (tWk0 K ((x ++ (".<locals>." : Str)) ++ ("<lambda>" : Str)) (cellsFrom (s.heap.objs.size + 1) (defScope st).names []) j L Ls)) :
    CalZ P w K mg base x (k + 1) ps (spWorks K ((x ++ (".<locals>." : Str)) ++ ("<lambda>" : Str)) ps (L :: Ls)) := by
  obtain ⟨a, fd, F, g, b, hc⟩ := F
  refine ⟨a, fd, ?_, g, F.kp, b⟩
  obtain ⟨oc, od, dV, kV, doc, pm, an, cdv, ct, osl, rfl, lk, hcd, _, _⟩ := F.ex
  obtain rfl : cdv = .ref c := hc
  refine fn_ofT ps lk hcd S (fun vs H Q E h => h.1) hps fun A outer s H vs Q E hr h => ⟨_, hb a A outer s H E hr, ?_⟩
  obtain ⟨hl, hT, hQ⟩ := h
  refine wk_start (by unfold L2.start; simp; omega) hT hz fun p H1 S1 val hno hval hinj => ?_
  exact hQ p _ (wk_out S1 S.pre hj1 hl hL hno hinj hval)
end
end HD
end
section
/-! The data layer: a def that calls a lambda in a try and tells what it refuses; BadWeb raised. -/
namespace HD
open PySem PySem.Spec L2
open PyProof.Rows hiding St

/-! ### list.count of a truth -/
def rCntB (K : PySem.W.Frag) : V → List V → Hp → VK → Prop := fun x xs H Q => ∃ (p : Addr) (bs : List Bool) (k : Bool), x = .ref p ∧ xs = [.bl k] ∧ SqL K H p (bs.map V.bl) ∧ Q (.int (PySem.Spec.countIn (.bool k) (bs.map PyData.bool))) H
theorem bools_read {h : Heap} : ∀ {bs : List Bool} {us : List Value}, Vals (bs.map V.bl) us → PySem.ReadsAll h us (bs.map PyData.bool) []
  | [], _, r => by cases r; exact .nil
  | b :: bs, _, r => by
    cases r with
    | cons a t =>
      cases a
      exact .cons (as := []) (bs := []) (.bool b) (bools_read t)
theorem mt_countB {X : Cx} : MtR X "list.count" (rCntB X.K) := by
  intro pins s σ H x xs v us Q I rx rxs h
  obtain ⟨p, bs, k, rfl, rfl, hs, q⟩ := h
  cases rx
  obtain ⟨u, rfl, ru⟩ := rxs.one
  cases ru
  obtain ⟨its, rv, pl, hlen⟩ := I.list hs
  refine PyProof.Rows.count_list_bools (vs := its) (xs := bs.map PyData.bool) (as := []) (hp := s.heap) pl.isList (bools_read rv) ?_ ?_
  · rw [List.all_map]
    exact List.all_eq_true.mpr fun b _ => rfl
  · exact ⟨.int _, H, I.tok _, ⟨s.toks, rfl⟩, q⟩
/-! ### the suite -/
/-- kinds = [isinstance(e, A), isinstance(e, B), isinstance(e, C), isinstance(e, T)], and so on, for an error of the class T = BadWeb -/
def tsW (K : PySem.W.Frag) (Cw Ca Cl Ct : Addr) : Addr → Value → Option Addr → TS := fun a cls d =>
  tSeq (tAsg (tLst (tCons (isE K Cw a cls d 1 (.ref Ca)) (tCons (isE K Cw a cls d 1 (.ref Cl)) (tCons (isE K Cw a cls d 1 (.ref Ct)) (tCons (isE K Cw a cls d 1 (.ref Cw)) tNil))))) (gName 2))
    (tSeq (tIfS (tOr (tNot (tB (isE K Cw a cls d 1 (.ty "ValueError")))) (tTest (tOp rNe (tBM K "list" (rCntB K) (tVar 2) (tCons (tC (.bl true)) tNil)) (tC (.int 1))))) tNever tNext)
      (tSeq (tIfS (tB (tOp (rIx K) (tVar 2) (tC (.int 0)))) tNever tNext)
        (tSeq (tIfS (tB (tOp (rIx K) (tVar 2) (tC (.int 1)))) tNever tNext)
          (tSeq (tRet (tIf (tB (tOp (rIx K) (tVar 2) (tC (.int 2)))) (fun _ _ _ => False) (tTup (tCons (tC (.str "web")) (tCons (tXf a cls d Cw "word" (tVar 1)) tNil))))) tNext))))
theorem pe_no {X : Cx} {e : Expr} : PE X e (fun _ _ _ => False) := ⟨fun _ _ _ _ _ _ h => h.elim⟩
theorem pss_no {X : Cx} {st : List Stmt} : PSs X st tNever := ⟨fun _ _ _ _ _ _ h => h.elim⟩
theorem tsW_ok {K : PySem.W.Frag} {Cw Ca Cl Ct Ch a dd : Addr} {fs : List (Str × V)} {w : Str} {D : Ends} {σ : St} {H : Hp} (k : Kits K Cw Ca Cl Ct Ch) (hσ : σ[1]? = some (some (.ref a))) (h2 : 2 < σ.length) (hd : H dd = some (.xd fs)) (hl : fs.lookup ("word" : Str) = some (V.str w))
    (q : ∀ p xs p2, H p = none → upd H p (.lst xs) p2 = none → D.rt (.ref p2) (upd (upd H p (.lst xs)) p2 (.tup [.str "web", .str w]))) : tsW K Cw Ca Cl Ct a (.ref Cw) (some dd) D σ H := by
  refine isE_ok hσ hd (fun u r => r) k.ka (isE_ok hσ hd (fun u r => r) k.kl (isE_ok hσ hd (fun u r => r) k.kw (isE_ok hσ hd (fun u r => r) k.kt ?_)))
  refine ⟨by show 4 ≤ sizeLine; rw [sizeLine_eq]; decide, fun p hp => ?_⟩
  have hσ1 : (σ.set 2 (some (V.ref p)))[1]? = some (some (.ref a)) := by rw [List.getElem?_set_ne (by decide)]; exact hσ
  have hσ2 : (σ.set 2 (some (V.ref p)))[2]? = some (some (.ref p)) := by rw [List.getElem?_set_self h2]
  have hd1 : upd H p (.lst [.bl false, .bl false, .bl false, .bl true]) dd = some (.xd fs) := by rw [upd_ne (ne_of_none hd hp)]; exact hd
  have hp1 : upd H p (.lst [.bl false, .bl false, .bl false, .bl true]) p = some (.lst ([false, false, false, true].map V.bl)) := upd_same
  have ix : ∀ (i : Nat) (b : Bool) (Q : VK), ([false, false, false, true] : List Bool)[i]? = some b → Q (.bl b) (upd H p (.lst [.bl false, .bl false, .bl false, .bl true])) → tOp (rIx K) (tVar 2) (tC (.int (i : Int))) (σ.set 2 (some (V.ref p))) (upd H p (.lst [.bl false, .bl false, .bl false, .bl true])) Q := fun i b Q hb hq => by
    refine ⟨.ref p, hσ2, .inl ⟨p, _, (i : Int), .bl b, rfl, rfl, .of hp1, ?_, hq⟩⟩
    match i, hb with
    | 0, hb => cases hb; rfl
    | 1, hb => cases hb; rfl
    | 2, hb => cases hb; rfl
    | 3, hb => cases hb; rfl
  refine isE_ok hσ1 hd1 (fun u r => r) k.kv ⟨true, rfl, ?_⟩
  refine iteF ?_
  refine ⟨.ref p, hσ2, .inl ⟨rfl, _, .of hp1⟩, p, [false, false, false, true], true, rfl, rfl, .of hp1, rfl, false, rfl, iteF ?_⟩
  refine ix 0 false _ rfl ⟨false, rfl, iteF ?_⟩
  refine ix 1 false _ rfl ⟨false, rfl, iteF ?_⟩
  refine ix 2 false _ rfl ⟨false, rfl, iteF ?_⟩
  refine ⟨.ref a, hσ1, rfl, rfl, dd, fs, .str w, rfl, hd1, hl, by show 2 ≤ sizeLine; rw [sizeLine_eq]; decide, fun p2 hp2 => q p _ p2 hp hp2⟩
/-! ### the def -/
def wordR : R (D × Rw) → R (D × Rw)
  | .ok (_, rw) => .ok (.tup [.str "", .non], rw)
  | .exc (.web w) rw => .ok (.tup [.str "web", .str w], rw)
  | _ => .stuck
/-- the value at f, a lambda of the list, at hand -/
structure AtHand (K : PySem.W.Frag) (q : Str) (N : List Str) (Ls : List LamI) (ds : List D) (r : Option Addr) (rw : Rw) (H G : Hp) (k : Nat) (f : Addr) : Prop where
  ex : ∃ (L : LamI) (cl : List (Str × Addr)) (vs : List V), Ls[k]? = some L ∧ LamV H q L N (L2.start N vs) f cl ∧ (∀ c ∈ adrs cl, G c = none) ∧ Reps K r G ds vs
  len : ds.length = N.length
  sub : Same G H
  row : RowT K r rw H G
def slotsOf (N : List Str) (ds : List D) : Dl := ds.map .val ++ List.replicate (N.length - N.length) .no
def spWord (K : PySem.W.Frag) (q : Str) (N : List Str) (Ls : List LamI) (gs : List (EM D)) : Sp := fun vs H Q E => ∃ f k g ds r G rw, vs = [.ref f] ∧ gs[k]? = some g ∧ AtHand K q N Ls ds r rw H G k f ∧ FPost K false XW0 r H G (wordR (g (slotsOf N ds) rw)) Q E
def tWord (K : PySem.W.Frag) (mg : Str → Option Value) (q : Str) (N : List Str) (Ls : List LamI) (gs : List (EM D)) (Cw Ca Cl Ct Ch : Addr) : TS :=
  tSeq (fun D σ H => tDrop (fun σ H Q => ∃ f, σ[0]? = some (some (.ref f)) ∧ zD K mg q N Ls gs f H Q (WE (wAs K (.ref Ch) 1 (tsW K Cw Ca Cl Ct) (fun _ _ _ _ => False) D) σ)) D σ H)
    (tSeq (tRet (tTup (tCons (tC (.str "")) (tCons (tC .non) tNil)))) tNext)
theorem RowT.go {K : PySem.W.Frag} {r : Option Addr} {rw : Rw} {H G H' G' : Hp} (x : RowT K r rw H G) (g : Gr K r H G H' G') (e : Same H H') : RowT K r rw H' G' :=
  ⟨g.tb x.t, x.w.grow e g.g fun a o z => (g.n a o z).imp id And.left, fun a o z => (g.n a o z).elim (x.g a o) And.right⟩
theorem same_new {H : Hp} {p : Addr} {o : HO} (hp : H p = none) : Same H (upd H p o) := fun a u e => by rw [upd_ne (ne_of_none e hp)]; exact e
theorem word_ok {K : PySem.W.Frag} {mg : Str → Option Value} {q : Str} {N : List Str} {Ls : List LamI} {gs : List (EM D)} {Cw Ca Cl Ct Ch : Addr} {vs : List V} {H : Hp} {Q : VK} {E : XK} {M : List Str} (hM : M.length = 3) (k : Kits K Cw Ca Cl Ct Ch) (gw : mg "BadWeb" = some (.ref Cw)) (h : spWord K q N Ls gs vs H Q E) :
    tWord K mg q N Ls gs Cw Ca Cl Ct Ch { nx := fun _ H' => Q .non H', rt := Q } (L2.start M vs) H := by
  obtain ⟨f, i, g, ds, r, G, rw, rfl, hg, ⟨⟨L, cl, us, a1, a2, a3, a4⟩, hl, sub, row⟩, hp⟩ := h
  have hst : L2.start M [V.ref f] = [some (.ref f), none, none] := by
    unfold L2.start
    rw [hM]
    rfl
  rw [hst]
  refine ⟨f, rfl, i, L, g, cl, ds, us, r, G, rw, a1, hg, hl, a2, sub, a3, a4, row, ?_⟩
  -- a new tuple is handed back
  have fin : ∀ (d1 d2 : D) (v1 v2 : V) (rw' : Rw) (H1 G1 : Hp) (p : Addr), (∀ G, Rep K r G d1 v1) → (∀ G, Rep K r G d2 v2) → (∀ v H' G', Gr K r H G H' G' → RowT K r rw' H' G' → FRet K false r H H' G' (.tup [d1, d2]) v → Q v H') → Gr K r H G H1 G1 → RowT K r rw' H1 G1 → H1 p = none → Q (.ref p) (upd H1 p (.tup [v1, v2])) := by
    intro d1 d2 v1 v2 rw' H1 G1 p r1 r2 hq g1 w1 hp1
    have g2 : Gr K r H1 G1 (upd H1 p (.tup [v1, v2])) (upd G1 p (.tup [v1, v2])) := Gr.new g1.s hp1
    refine hq _ _ _ (g1.trans g2) (w1.go g2 (same_new hp1)) ?_
    unfold FRet
    rw [if_neg Bool.false_ne_true]
    unfold Rep
    exact ⟨p, _, rfl, .of upd_same, by show 2 ≤ sizeLine; rw [sizeLine_eq]; decide, Reps.cons (r1 _) (Reps.cons (r2 _) Reps.nil)⟩
  show FPost K false (xwL mg) r H G (g (slotsOf N ds) rw) _ _
  cases e : g (slotsOf N ds) rw with
  | stuck => rw [e] at hp; exact hp.elim
  | ok p =>
    obtain ⟨d, rw'⟩ := p
    rw [e] at hp
    intro v H1 G1 g1 w1 _
    exact ⟨by show 2 ≤ sizeLine; rw [sizeLine_eq]; decide, fun p hp1 => fin (.str "") .non _ _ rw' H1 G1 p (fun _ => by unfold Rep; rfl) (fun _ => by unfold Rep; rfl) hp g1 w1 hp1⟩
  | exc x rw' =>
    rw [e] at hp
    cases x with
    | web w =>
      intro H1 G1 g1 w1 cls d hx
      obtain ⟨C', hC', rfl, dd, fs, rfl, hdd, hlk⟩ := hx
      have hC' : mg "BadWeb" = some (.ref C') := hC'
      rw [gw] at hC'
      cases hC'
      refine ⟨true, k.em, fun _ a ha => ?_, fun z => nomatch z⟩
      refine tsW_ok k rfl (by show 2 < 3; decide) hdd hlk fun p xs p2 hp1 hp2 => ?_
      have g2 : Gr K r H1 G1 (upd H1 p (.lst xs)) G1 := Gr.newO g1.s hp1
      exact fin (.str "web") (.str w) _ _ rw' _ G1 p2 (fun _ => by unfold Rep; rfl) (fun _ => by unfold Rep; rfl) hp (g1.trans g2) (w1.go g2 (same_new hp1)) hp2
    | _ => exact hp.elim
section
variable {P : Program} {w : World} {K : PySem.W.Frag} {mg : Str → Option Value} {base : Heap}
theorem word_cal {st : Stmt} {M : List Str} {k : Nat} {q : Str} {N : List Str} {Ls : List LamI} {gs : List (EM D)} {Cw Ca Cl Ct Ch : Addr} (F : FnF K mg "_law_word" st ["_law_work"]) (S : FnScope M ["_law_work"] (defScope st)) (hM : M.length = 3) (kk : Kits K Cw Ca Cl Ct Ch) (gw : mg "BadWeb" = some (.ref Cw))
    (hb : ∀ (f : Addr) (cdv : Value) (A : Around) (outer : List Env) (s : Shared) (H : Hp) (E : XK), Room k (A.deeper (envOfC "_law_word" (defScope st) s.heap.objs.size f cdv)) →
      PSs (cxOf CXF P w K mg base M "_law_word" (defScope st) f cdv A outer s H E).nox (defBody st) (tWord K mg q N Ls gs Cw Ca Cl Ct Ch)) :
    CalZ P w K mg base "_law_word" (k + 1) ["_law_work"] (spWord K q N Ls gs) := by
  obtain ⟨a, fd, F, g, b⟩ := F
  refine ⟨a, fd, F.ok S (fun vs H Q E h => by obtain ⟨f, _, _, _, _, _, _, rfl, _⟩ := h; rfl) (fun cdv A outer s H vs Q E hr h => ⟨_, PSs.nox (hb a cdv A outer s H E hr), word_ok hM kk gw h⟩), g, F.kp, b⟩
end
/-! ### BadWeb raised -/
structure RzW (P : Program) (w : World) (K : PySem.W.Frag) (mg : Str → Option Value) (base : Heap) : Prop where
  ex : ∃ (C fI : Addr) (fd : FuncData), RzC K mg "BadWeb" "word" C ∧ PySem.W.findIn K (.ref C) "__init__" = some (some (.ref fI)) ∧ PySem.W.typeIn K (.ref fI) = some (.type "function") ∧ FnOk P w K mg base (L2.CX P w) 1 fI fd ["self", "word"] (spI K "word") ∧ Binds K fd ["self", "word"] []
theorem mkWeb_at {mg : Str → Option Value} {C : Addr} (g : mg "BadWeb" = some (.ref C)) : ∀ (d : D) (x : Exn) (K : PySem.W.Frag) (o : Option Addr) (G : Hp) (v : V), mkWeb d = some x → Rep K o G d v → Exn.nm x = "BadWeb" ∧ ∀ (dd : Addr) (H : Hp), H dd = some (.xd [("word", v)]) → ExAt mg x (.ref C) (some dd) H := by
  intro d x K o G v e r
  cases d with
  | str n =>
    cases e
    unfold Rep at r
    subst r
    refine ⟨rfl, fun dd H h => ⟨C, g, rfl, dd, _, rfl, h, ?_⟩⟩
    simp [List.lookup]
  | _ => cases e
theorem RzW.ds {X : Cx} {Wx : WX} {own : Bool} {g : EM (List D)} {e : Expr} {p pos pos2 : Pos} (T : RzW X.prog X.w X.K X.mg X.base) (hc : X.calm = true) (tk : Takes X Wx) (hr : Room 2 X.A) (hg : Gl X "BadWeb") (ha : DA X (wdOf X.mg Wx) [e] g)
    (he : starEach [e] X.env = (false, eval e X.env) :: starEach [] X.env := by rfl) (hpl : (backTo pos (starEach [] X.env)).any (·.1) = false := by rfl) :
    DS X (wdOf X.mg Wx) own (.Raise (some (.Call (.Name "BadWeb" p) [e] [] pos)) none pos2) (sRaise mkWeb g) := by
  obtain ⟨C, fI, fd, R, i1, i2, F, b⟩ := T.ex
  exact ds_raise (p2 := pos) hc tk R i1 i2 F hr b (mkWeb_at R.g) hg ha (by decide) he hpl
/-- what the head asks -/
def excWB (K : PySem.W.Frag) : Bool := rzB K "BadWeb" "word" && (baseB K (He.ga K "HopError") && (isCB K (He.ga K "BadWeb") && (kitsB K (He.ga K "BadWeb") (He.ga K "BadAsk") (He.ga K "BadLog") (He.ga K "BadText") (He.ga K "HopError") && decide (PySem.W.findIn K (.ref (He.ga K "BadWeb")) "word" = some none))))
/-- the classes, for such a try -/
structure ExW (K : PySem.W.Frag) (mg : Str → Option Value) (Cw Ca Cl Ct Ch : Addr) : Prop where
  gw : mg "BadWeb" = some (.ref Cw)
  ga : mg "BadAsk" = some (.ref Ca)
  gl : mg "BadLog" = some (.ref Cl)
  gt : mg "BadText" = some (.ref Ct)
  gh : mg "HopError" = some (.ref Ch)
  is_ : IsC K Cw
  k : Kits K Cw Ca Cl Ct Ch
  no : PySem.W.findIn K (.ref Cw) "word" = some none
theorem excWB_ok {K : PySem.W.Frag} {mg : Str → Option Value} (h : excWB K = true) (gw : mg "BadWeb" = some (.ref (He.ga K "BadWeb"))) (ga : mg "BadAsk" = some (.ref (He.ga K "BadAsk"))) (gl : mg "BadLog" = some (.ref (He.ga K "BadLog"))) (gt : mg "BadText" = some (.ref (He.ga K "BadText"))) (gh : mg "HopError" = some (.ref (He.ga K "HopError"))) :
    rzB K "BadWeb" "word" = true ∧ BaseC K (He.ga K "HopError") ∧ ExW K mg (He.ga K "BadWeb") (He.ga K "BadAsk") (He.ga K "BadLog") (He.ga K "BadText") (He.ga K "HopError") := by
  obtain ⟨h1, h⟩ := Bool.and_eq_true_iff.mp h
  obtain ⟨h2, h⟩ := Bool.and_eq_true_iff.mp h
  obtain ⟨h3, h⟩ := Bool.and_eq_true_iff.mp h
  obtain ⟨h4, h5⟩ := Bool.and_eq_true_iff.mp h
  exact ⟨h1, baseB_ok h2, gw, ga, gl, gt, gh, isCB_ok h3, kitsB_ok h4, of_decide_eq_true h5⟩
end HD
end
section
/-! The data layer: [w for w in works(a, b) if not alike(word(w), ("web", y))] != []. -/
namespace HD
open PySem PySem.Spec L2
open PyProof.Rows hiding St
section
variable {X : Cx} {k : Nat} {ps : List Str} {x : Str} {sp : Sp} {F : FD} {p pos : Pos} {e : Expr} {es : List Expr} {t : TA}
theorem CalZ.pe (C : CalZ X.prog X.w X.K X.mg X.base x k ps sp) (hr : Room k X.A) (hg : Gl X x) (ha : PA X (e :: es) t) (hdb : (x == ("__debug__" : Str)) = false := by decide) (he : starEach (e :: es) X.env = (false, eval e X.env) :: starEach es X.env := by rfl) (hpl : (backTo pos (starEach es X.env)).any (·.1) = false := by rfl) :
    PE X (.Call (.Name x p) (e :: es) [] pos) (tCall sp [] (fun _ _ _ => False) t) := by
  obtain ⟨a, fd, Fo, hm, hk, hb⟩ := C.ex
  exact pe_call Fo hr hg hm hk hb .nil (fun _ _ _ _ _ _ _ h => h.elim) ha hdb he hpl
theorem Cal.pe (C : Cal X.prog X.w X.K X.mg X.base x k ps false F) (hr : Room k X.A) (hg : Gl X x) (ha : PA X (e :: es) t) (hdb : (x == ("__debug__" : Str)) = false := by decide) (he : starEach (e :: es) X.env = (false, eval e X.env) :: starEach es X.env := by rfl) (hpl : (backTo pos (starEach es X.env)).any (·.1) = false := by rfl) :
    PE X (.Call (.Name x p) (e :: es) [] pos) (tCall (spD X.K false XW0 F) [] (fun _ _ _ => False) t) := by
  obtain ⟨a, fd, Fo, hm, hk, hb⟩ := C.ex
  exact pe_call Fo hr hg hm hk hb .nil (fun _ _ _ _ _ _ _ h => h.elim) ha hdb he hpl
end
open Classical in
/-- whether all that is handed the slots i, j lets out what the slot m tells: then nothing is left of the list -/
noncomputable def tAllWeb (F : FD) (N : List Str) (gs : List (EM D)) (i j m jw : Nat) : EM Bool := fun l rw => match l[i]?, l[j]?, l[m]? with
  | some (.val a), some (.val b), some (.val (.str y)) => if jw < l.length ∧ (∀ g ∈ gs, g (slotsOf N [a, b]) rw = .exc (.web y) rw) ∧ F [.tup [.str "web", .str y], .tup [.str "web", .str y]] rw = .ok (.bl true, rw) then .ok (false, rw) else .stuck
  | _, _, _ => .stuck
theorem wipe_wipe (vs : List Nat) (σ : St) : wipe (wipe σ vs) vs = wipe σ vs := by
  refine List.ext_getElem? fun j => ?_
  by_cases hv : j ∈ vs
  · by_cases hl : j < (wipe σ vs).length
    · have a1 : ∀ (τ : St), j < τ.length → (wipe τ vs)[j]? = some none := by
        intro τ hτ
        cases z : (wipe τ vs)[j]? with
        | none =>
          have := List.getElem?_eq_none_iff.mp z
          rw [wipe_length] at this; omega
        | some u =>
          cases u with
          | none => rfl
          | some v => exact absurd hv (wipe_some z).2
      rw [a1 _ hl, a1 _ (by rw [wipe_length] at hl; exact hl)]
    · rw [List.getElem?_eq_none (by rw [wipe_length]; omega), List.getElem?_eq_none (by omega)]
  · rw [wipe_out hv]
theorem nil_ne {K : PySem.W.Frag} {H : Hp} {a b : Addr} {Q : VK} (ha : H a = some (.lst [])) (hb : H b = some (.lst [])) (q : Q (.bl false) H) : rNeD K (.ref a) (.ref b) H Q := by
  have r : ∀ c, H c = some (.lst []) → Rep K none H (.lst []) (.ref c) := fun c hc => by
    unfold Rep
    exact ⟨c, [], rfl, hc, Nat.zero_le _, Reps.nil⟩
  have f : fit 8 (.lst []) = true := by decide
  refine ⟨_, _, dp_of (Same.refl H) 8 _ _ f (r a ha), dp_of (Same.refl H) 8 _ _ f (r b hb), fit_shaped (d := .lst []) (by decide) f, fit_shaped (d := .lst []) (by decide) f, ?_⟩
  have e : PyData.eqv (toPy (.lst [])) (toPy (.lst [])) = true := by
    simp [toPy, toPys, PyData.eqv, PyData.eqvAll]
  rw [e]
  exact q
section
variable {X : Cx}
theorem redWorks {F : FD} {q : Str} {N : List Str} {L : LamI} {Ls : List LamI} {gs : List (EM D)} {i j m jw : Nat} {te : TE} (hN2 : N.length = 2) (hgs : gs.length = (L :: Ls).length) (hm : m ≠ jw) :
    ∀ σ H Q, tT X.K W0 (tAllWeb F N gs i j m jw) σ H Q →
      tTest (tOp (rNeD X.K) (tLc (iList X.K (tCall (spWorks X.K q N (L :: Ls)) [] (fun _ _ _ => False) (tCons (tVar i) (tCons (tVar j) tNil)))) (gName jw)
        (tNot (tB (tCall (spD X.K false XW0 F) [] (fun _ _ _ => False) (tCons (tCall (spWord X.K q N (L :: Ls) gs) [] (fun _ _ _ => False) (tCons (tVar jw) tNil)) (tCons (tTup (tCons (tC (.str "web")) (tCons (tVar m) tNil))) tNil))))) te [jw]) (tLst tNil)) σ H Q := by
  intro σ H Q hq
  obtain ⟨C, l, rw, G, S, hp⟩ := hq
  unfold tAllWeb at hp
  -- the slots
  cases e1 : l[i]? with
  | none => rw [e1] at hp; exact hp.elim
  | some x1 =>
  cases e2 : l[j]? with
  | none => rw [e1, e2] at hp; cases x1 <;> exact hp.elim
  | some x2 =>
  cases e3 : l[m]? with
  | none => rw [e1, e2, e3] at hp; cases x1 <;> cases x2 <;> exact hp.elim
  | some x3 =>
  rw [e1, e2, e3] at hp
  cases x1 with
  | no => exact hp.elim
  | own _ => exact hp.elim
  | val dw =>
  cases x2 with
  | no => exact hp.elim
  | own _ => exact hp.elim
  | val dg =>
  cases x3 with
  | no => exact hp.elim
  | own _ => exact hp.elim
  | val dy =>
  cases dy with
  | str y =>
    dsimp only at hp
    by_cases hc : jw < l.length ∧ (∀ g ∈ gs, g (slotsOf N [dw, dg]) rw = .exc (.web y) rw) ∧ F [.tup [.str "web", .str y], .tup [.str "web", .str y]] rw = .ok (.bl true, rw)
    case neg => rw [if_neg hc] at hp; exact hp.elim
    rw [if_pos hc] at hp
    obtain ⟨hjl, hgw, hF⟩ := hc
    replace hp : ∀ H' G', SR X.K C l rw σ H' G' → Gr X.K C.r H G H' G' → Q false H' := hp
    obtain ⟨_, s1, vw, rfl, r1⟩ := S.sl i _ e1
    obtain ⟨_, s2, vg, rfl, r2⟩ := S.sl j _ e2
    obtain ⟨_, s3, vy, rfl, r3⟩ := S.sl m _ e3
    unfold Rep at r3
    subst r3
    refine ⟨vw, s1, vg, s2, by rw [hN2]; rfl, S.tabs, fun p H1 wo => ?_⟩
    obtain ⟨hr0, hrp⟩ := S.h0none wo.new
    obtain ⟨fs, f1, f2, f3⟩ := wo.lst
    have g1 : Gr X.K C.r H G H1 G := ⟨fun a o e _ nt => wo.st a o e nt, Same.refl _, fun a o e => .inl e, fun a o e => wo.st a o (S.sub a o e) (S.gt a o e), wo.th, fun _ => wo.tb⟩
    have S1 : SR X.K C l rw σ H1 G := S.grow g1 (S.row.grown wo.st)
    refine ⟨p, rfl, ⟨_, .of f1⟩, fun Dl hD => ?_⟩
    obtain ⟨hD0, hDr⟩ := S1.h0none hD
    have hDG := S1.gnone hD
    refine ⟨fun n mm H2 => mm = fs.length - n ∧ n ≤ fs.length ∧ ∃ G2, RowOk X.K C.r rw H2 G2 ∧ Gr X.K C.r H1 G H2 G2 ∧ G2 Dl = none ∧ H2 Dl = some (.lst []), ⟨fs.length, rfl, Nat.zero_le _, G, (S1.newO (o := .lst []) hD).row, Gr.newO S1.sub hD, hDG, upd_same⟩, ?_⟩
    rintro n mm H2 ⟨rfl, hn, G2, w2, g2, hDG2, hD2⟩
    have S2 : SR X.K C l rw σ H2 G2 := S1.grow g2 w2
    have hp2 : H2 p = some (.lst (fs.map V.ref)) := g2.h _ _ f1 hrp nTb_lst
    by_cases hlt : n < fs.length
    · have hfn : fs[n]? = some fs[n] := List.getElem?_eq_getElem hlt
      have hmn : (fs.map V.ref)[n]? = some (.ref fs[n]) := by rw [List.getElem?_map, hfn]; rfl
      refine .inr ⟨⟨_, _, .of hp2, hmn⟩, fun H' => ∃ G', RowOk X.K C.r rw H' G' ∧ Gr X.K C.r H1 G H' G' ∧ G' Dl = none ∧ H' Dl = some (.lst []), fun H' hN => ⟨_, by omega, rfl, hlt, hN⟩, fun xv H' hy => ?_⟩
      obtain ⟨rfl, hx⟩ := hy
      have ex := hx _ (.of hp2)
      rw [hmn] at ex
      cases ex
      have hLn : ∃ M, (L :: Ls)[n]? = some M := ⟨_, List.getElem?_eq_getElem (by omega)⟩
      obtain ⟨M, hM⟩ := hLn
      have hgn : ∃ g, gs[n]? = some g := ⟨_, List.getElem?_eq_getElem (by omega)⟩
      obtain ⟨g, hg⟩ := hgn
      obtain ⟨cl, lv, lnew⟩ := f3 n _ M hfn hM
      have hgw' := hgw g (List.mem_of_getElem? hg)
      have ext2 : ∀ a φ, H1 a = some (.ext φ) → H' a = some (.ext φ) := fun a φ h => g2.ext S1.row h
      have lv2 := lv.stay ext2
      have cG : ∀ c ∈ adrs cl, G2 c = none := fun c hc => by
        obtain ⟨⟨x, c⟩, hmc, rfl⟩ := List.mem_map.mp hc
        obtain ⟨_, _, _, _, _, h3, _⟩ := id lv
        obtain ⟨_, _, u, _, _, _, h4⟩ := h3.bear x c hmc
        exact g2.gnone h4 (S.gnone (lnew c hc))
      -- the target
      have wj : wipe ((wipe σ [jw]).set jw (some (V.ref fs[n]))) [jw] = wipe σ [jw] := by rw [wipe_set (by simp), wipe_wipe]
      refine ⟨wj, ?_⟩
      have hσj : ((wipe σ [jw]).set jw (some (V.ref fs[n])))[jw]? = some (some (.ref fs[n])) := by rw [List.getElem?_set_self (by rw [wipe_length, S.len]; exact hjl)]
      have hσm : ((wipe σ [jw]).set jw (some (V.ref fs[n])))[m]? = some (some (.str y)) := by rw [List.getElem?_set_ne (Ne.symm hm), wipe_out (by simpa using hm)]; exact s3
      refine ⟨.ref fs[n], hσj, fs[n], n, g, [dw, dg], C.r, G2, rw, rfl, hg, ⟨⟨M, cl, [vw, vg], hM, lv2, cG, Reps.cons (r1.mono g2.g) (Reps.cons (r2.mono g2.g) Reps.nil)⟩, by rw [hN2]; rfl, S2.sub, ⟨S2.tabs, w2, S2.gt⟩⟩, ?_⟩
      rw [hgw']
      intro v H3 G3 g3 w3 r5
      unfold FRet at r5
      rw [if_neg Bool.false_ne_true] at r5
      refine ⟨.str y, hσm, by show 2 ≤ sizeLine; rw [sizeLine_eq]; decide, fun p5 hp5 => ?_⟩
      have g4 : Gr X.K C.r H3 G3 (upd H3 p5 (.tup [.str "web", .str y])) (upd G3 p5 (.tup [.str "web", .str y])) := Gr.new g3.s hp5
      have w4 := w3.go g4 (same_new hp5)
      refine ⟨C.r, _, [.tup [.str "web", .str y], .tup [.str "web", .str y]], rw, g4.s, Reps.cons (r5.mono g4.g) (Reps.cons ?_ Reps.nil), w4, ?_⟩
      · unfold Rep
        exact ⟨p5, _, rfl, .of upd_same, by show 2 ≤ sizeLine; rw [sizeLine_eq]; decide, Reps.cons (by unfold Rep; rfl) (Reps.cons (by unfold Rep; rfl) Reps.nil)⟩
      rw [hF]
      intro v6 H6 G6 g6 w6 r6
      unfold FRet at r6
      rw [if_neg Bool.false_ne_true] at r6
      unfold Rep at r6
      have gg := (g3.trans g4).trans g6
      have hDg : G6 Dl = none := gg.gnone hD2 hDG2
      exact ⟨true, r6, iteF ⟨G6, w6.w, g2.trans gg, hDg, gg.h _ _ hD2 hDr nTb_lst⟩⟩
    · have en : n = fs.length := by omega
      subst en
      refine .inl ⟨⟨_, .of hp2, by rw [List.length_map]; exact Nat.le_refl _⟩, ?_⟩
      refine ⟨Nat.zero_le _, fun p4 hp4 => ?_⟩
      have S3 : SR X.K C l rw σ (upd H2 p4 (.lst [])) G2 := S2.newO hp4
      exact nil_ne (by rw [upd_ne (ne_of_none hD2 hp4)]; exact hD2) upd_same ⟨false, rfl, hp _ _ S3 ((g1.trans g2).trans (Gr.newO S2.sub hp4))⟩
  | _ => exact hp.elim
/-- [w for w in works(a, b) if not alike(word(w), ("web", y))] != [] -/
theorem dt_works {F : FD} {q xw xo xa wn an bn yn : Str} {N psw pso psa : List Str} {L : LamI} {Ls : List LamI} {gs : List (EM D)} {i j m jw kw ko ka : Nat} {scope : Scope} {pos p1 p2 p3 p4 p5 p6 p7 p8 p9 p10 p11 p12 p13 p14 p15 p16 p17 : Pos} {kk kl : Nat} (hN2 : N.length = 2) (hgs : gs.length = (L :: Ls).length) (hm : m ≠ jw)
    (hc : X.calm = true) (hN : X.N.Nodup) (hu : X.A.units + 64 < cLine) (Cw : CalZ X.prog X.w X.K X.mg X.base xw kw psw (spWorks X.K q N (L :: Ls))) (Co : CalZ X.prog X.w X.K X.mg X.base xo ko pso (spWord X.K q N (L :: Ls) gs)) (Ca : Cal X.prog X.w X.K X.mg X.base xa ka psa false F)
    (hrw : Room kw X.A) (hro : Room ko X.A) (hra : Room ka X.A) (hgw : Gl X xw) (hva : PE X (.Name an p1) (tVar i)) (hvb : PE X (.Name bn p2) (tVar j)) (ok : BlkOk X.N X.env.scope scope [(wn, jw)])
    (hg : ∀ (s : Shared) (H : Hp) (C : Addr) (cl : List (Str × Addr)) (fp : List Addr), PG (X.blk s H scope (compEnvC scope cl C X.env) fp) (.Name wn p3) (gName jw))
    (hgo : ∀ (s : Shared) (H : Hp) (C : Addr) (cl : List (Str × Addr)) (fp : List Addr), Gl (X.blk s H scope (compEnvC scope cl C X.env) fp) xo) (hga : ∀ (s : Shared) (H : Hp) (C : Addr) (cl : List (Str × Addr)) (fp : List Addr), Gl (X.blk s H scope (compEnvC scope cl C X.env) fp) xa)
    (hvw : ∀ (s : Shared) (H : Hp) (C : Addr) (cl : List (Str × Addr)) (fp : List Addr), PE (X.blk s H scope (compEnvC scope cl C X.env) fp) (.Name wn p4) (tVar jw)) (hvy : ∀ (s : Shared) (H : Hp) (C : Addr) (cl : List (Str × Addr)) (fp : List Addr), PE (X.blk s H scope (compEnvC scope cl C X.env) fp) (.Name yn p5) (tVar m))
    (hdw : (xw == ("__debug__" : Str)) = false) (hdo : (xo == ("__debug__" : Str)) = false) (hda : (xa == ("__debug__" : Str)) = false) :
    DT X W0 (.Compare (.ListComp (.Name wn p6) [⟨.Name wn p3, .Call (.Name xw p7) [.Name an p1, .Name bn p2] [] p8, [.UnaryOp .Not (.Call (.Name xa p9) [.Call (.Name xo p10) [.Name wn p4] [] p11, .Tuple [.Constant (.str "web") kk p12, .Name yn p5] kl p13] [] p14) p15], 0⟩] scope pos) [.NotEq] [.List [] p16] p17) (tAllWeb F N gs i j m jw) := by
  refine pt_imp (pt_cmpR (op_neD hu) (pe_lc (own := [(wn, jw)]) hc hN (pi_list (Cw.pe hrw hgw (pa_cons hva (pa_cons hvb pa_nil)) hdw)) ok hg (fun s H C cl fp => pts_one (pt_not (pt_val (Ca.pe (X := X.blk s H scope (compEnvC scope cl C X.env) fp) hra (hga s H C cl fp) (pa_cons (Co.pe (X := X.blk s H scope (compEnvC scope cl C X.env) fp) hro (hgo s H C cl fp) (pa_cons (hvw s H C cl fp) pa_nil) hdo) (pa_cons (pe_tup (pa_cons pe_str (pa_cons (hvy s H C cl fp) pa_nil))) pa_nil)) hda)))) (fun s H C cl fp => pe_no)) (pe_lst pa_nil) (nomark _)) (redWorks hN2 hgs hm)
end
end HD
end
section
/-! The data layer: calls of calm defs amid raising ones; tuple(range(..)); statements that are not reached. -/
namespace HD
open PySem PySem.Spec L2
open PyProof.Rows hiding St
def noXF (F : FD) : FD := fun ds rw => noX (F ds rw)
section
variable {X : Cx} {W : WD} {k : Nat} {ps : List Str} {F : FD} {x : Str} {p pos : Pos} {e : Expr} {es : List Expr} {g : EM (List D)} {own : Bool}
theorem redCallN {E : XK} : ∀ σ H Q, tD X.K W (eCall (noXF F) g) σ H Q → tCall (spD X.K false XW0 F) [] E (tA X.K W g) σ H Q := by
  intro σ H Q hq
  obtain ⟨C, l, rw, G, S, hp⟩ := hq
  refine seqA (P := PEq X.K W C l σ H G Q) S hp (fun _ _ z => z) (fun z => z) fun ds rw1 vs H1 G1 S1 s1 r1 h1 => ?_
  dsimp only [PEq] at h1
  refine ⟨C.r, G1, ds, rw1, S1.sub, by rw [List.append_nil]; exact r1, ⟨S1.tabs, S1.row, S1.gt⟩, ?_⟩
  unfold noXF at h1
  cases e : F ds rw1 with
  | stuck => rw [e] at h1; exact h1.elim
  | exc x w => rw [e] at h1; exact h1.elim
  | ok p =>
    obtain ⟨d, rw'⟩ := p
    rw [e] at h1
    intro v H' G' g' w' rr
    unfold FRet at rr
    rw [if_neg Bool.false_ne_true] at rr
    exact h1 v H' G' (S1.grow g' w'.w) (s1.trans g') rr
/-- f(..), f a def that lets nothing out, in a def that may -/
theorem Cal.deW (C : Cal X.prog X.w X.K X.mg X.base x k ps false F) (hr : Room k X.A) (hg : Gl X x) (ha : DA X W (e :: es) g) (hdb : (x == ("__debug__" : Str)) = false := by decide) (he : starEach (e :: es) X.env = (false, eval e X.env) :: starEach es X.env := by rfl) (hpl : (backTo pos (starEach es X.env)).any (·.1) = false := by rfl) :
    DE X W (.Call (.Name x p) (e :: es) [] pos) (eCall (noXF F) g) := pe_imp (C.pe hr hg ha hdb he hpl) redCallN
theorem dss_never {sts : List Stmt} : DSs X W own sts sStuck := pss_imp pss_no fun E σ H ⟨C, l, rw, G, S, hp⟩ => hp.elim
/-- tuple(range(a, b)) -/
def eTRg2 (g1 g2 : EM D) : EM D := fun l rw => (g1 l rw).bind fun p => (g2 l p.2).bind fun q => match p.1, q.1 with
  | .int i, .int n => if (-1000000 ≤ i ∧ i ≤ 1000000) ∧ -1000000 ≤ n ∧ n ≤ 1000000 then .ok (.tup (rangeD i (n - i).toNat), q.2) else .stuck
  | _, _ => .stuck
theorem de_tRg2 {a b : Expr} {p pos : Pos} {p2 pos2 : Pos} {g1 g2 : EM D} (hc : X.calm = true) (hg : Gl X "tuple") (hm : X.mg "tuple" = none) (hg2 : Gl X "range") (hm2 : X.mg "range" = none) (ha : DE X W a g1) (hb : DE X W b g2)
    (na2 : starEach [a, b] X.env = (false, eval a X.env) :: starEach [b] X.env := by rfl) (nb2 : starEach [b] X.env = (false, eval b X.env) :: starEach [] X.env := by rfl) (hpl : (backTo pos2 (starEach [b] X.env)).any (·.1) = false := by rfl)
    (na : starEach [.Call (.Name "range" p2) [a, b] [] pos2] X.env = (false, eval (.Call (.Name "range" p2) [a, b] [] pos2) X.env) :: starEach [] X.env := by rfl) :
    DE X W (.Call (.Name "tuple" p) [.Call (.Name "range" p2) [a, b] [] pos2] [] pos) (eTRg2 g1 g2) := by
  refine pe_imp (pe_tupRg hc hg hm (prg_2 hg2 hm2 ha hb na2 nb2 hpl) na) fun σ H Q hq => ?_
  obtain ⟨C, l, rw, G, S, hp⟩ := hq
  refine seqD (P := PEq X.K W C l σ H G Q) S hp (fun _ _ z => z) (fun z => z) fun d rw1 v H1 G1 S1 s1 r1 h1 => ?_
  refine seqD (P := PEq X.K W C l σ H G Q) S1 h1 (fun _ _ z => z) (fun z => z) fun d2 rw2 v2 H2 G2 S2 s2 r2 h2 => ?_
  dsimp only [PEq] at h2
  cases d with
  | int i =>
    cases d2 with
    | int n =>
      dsimp only at h2
      by_cases hn : (-1000000 ≤ i ∧ i ≤ 1000000) ∧ -1000000 ≤ n ∧ n ≤ 1000000
      case neg => rw [if_neg hn] at h2; exact h2.elim
      rw [if_pos hn] at h2
      unfold Rep at r1 r2
      refine ⟨i, n, r1, r2, rgOk_of hn.1 hn.2, fun q hq => ?_⟩
      obtain ⟨ns, e1, e2⟩ := rgV_ints i n
      have hl : (rgV i n).length ≤ sizeLine := by rw [rgV_length, sizeLine_eq]; omega
      refine h2 _ _ _ (S2.new hq) ((s1.trans s2).trans (Gr.new S2.sub hq)) ?_
      rw [e2]
      unfold Rep
      exact ⟨q, _, rfl, .of upd_same, hl, by rw [e1]; exact Reps.of_ints ns⟩
    | _ => exact h2.elim
  | _ => cases d2 <;> exact h2.elim
end
end HD
end
section
namespace HC
end HC
namespace HC
open PySem PySem.Spec L2 HD HC
open PyProof.Rows hiding St
def b__law_why : SM := (sSeq (sAsg (eV 0) (gT 3 (gsCons (gN 1) (gsCons (gN 2) (gsCons (gN 3) gsNil))))) (sSeq (sIf (tNot' (toB (eChain fLe fLe (eK (.int 2)) (eV 1) (eK (.int 6))))) (sRet (eK (.str "many"))) sNext) (sSeq (sIf (toB (eBin fNe (eArgs fList (aCons (eV 2) aNil)) (eComp (aRng rng2 (aCons (eK (.int 1)) (aCons (eV 1) aNil))) (gN 4) (toB (eBin (fIn false) (eV 4) (eV 2))) (eV 4) [4]))) (sRet (eK (.str "silent"))) sNext) (sSeq (sIf (toB (eBin fNe (eArgs fLen (aCons (eV 3) aNil)) (eBin fSub (eV 1) (eK (.int 1))))) (sRet (eK (.str "ways"))) sNext) (sSeq (sFor (aRng rng2 (aCons (eK (.int 1)) (aCons (eV 1) aNil))) (gN 5) (sSeq (sSet 6 (eBin fIx (eV 3) (eBin fSub (eV 5) (eK (.int 1))))) (sSeq (sIf (tOr' (toB (eBin fNe (eArgs fLen (aCons (eV 6) aNil)) (eV 1))) (toB (eUn notNonD (eBin fIx (eV 6) (eV 5))))) (sRet (eK (.str "ways"))) sNext) (sFor (aRng rng1 (aCons (eV 1) aNil)) (gN 4) (sIf (tAnd' (toB (eUn notNonD (eBin fIx (eV 6) (eV 4)))) (tOr' (tNot' (toB (eChain fLe fLt (eK (.int 0)) (eBin fIx (eV 6) (eV 4)) (eV 1)))) (toB (eBin fEq (eBin fIx (eV 6) (eV 4)) (eV 4))))) (sRet (eK (.str "ways"))) sNext))))) (sRet (eK .non)))))))
def d__law_why : FD := dDef false 1 7 b__law_why
def b__law_spoilt : SM := (sSeq (sAsg (eV 1) (gT 3 (gsCons (gN 2) (gsCons (gN 3) (gsCons (gN 4) gsNil))))) (sSeq (sSet 5 (eCall d__law_taken (aCons (eV 0) (aCons (eK (.int 8)) aNil)))) (sSeq (sSet 6 (eCall d__law_taken (aCons (eV 0) (aCons (eK (.int 100)) aNil)))) (sSeq (sIf (toB (eBin fEq (eV 5) (eK (.int 0)))) (sRet (eTup (aCons (eBin fIx (eLst (aCons (eK (.int 0)) (aCons (eK (.int 1)) (aCons (eK (.int 7)) (aCons (eBin fSub (eK (.int 0)) (eK (.int 1))) (aCons (eBin fAdd (eK (.int 7)) (eV 6)) (aCons (eV 2) aNil))))))) (eCall d__law_taken (aCons (eV 0) (aCons (eK (.int 6)) aNil)))) (aCons (eV 3) (aCons (eV 4) aNil))))) sNext) (sSeq (sIf (toB (eBin fLt (eV 5) (eK (.int 3)))) (sSeq (sSet 7 (eLst (aCons (eTup (aCons (eK (.int 0)) aNil)) (aCons (eTup (aCons (eV 2) aNil)) (aCons (eTup (aCons (eBin fSub (eK (.int 0)) (eK (.int 1))) aNil)) (aCons (eTup (aCons (eK (.int 1)) (aCons (eK (.int 1)) aNil))) (aCons (eTup (aCons (eBin fSub (eV 2) (eK (.int 1))) (aCons (eK (.int 0)) aNil))) (aCons (eTup (aCons (eBin fAdd (eV 2) (eV 6)) aNil)) (aCons (eTRg2 (eK (.int 1)) (eV 2)) (aCons (eBin fAdd (eV 3) (eV 3)) aNil)))))))))) (sRet (eTup (aCons (eV 2) (aCons (eBin fIx (eV 7) (eCall d__law_taken (aCons (eV 0) (aCons (eK (.int 8)) aNil)))) (aCons (eV 4) aNil)))))) sNext) (sSeq (sIf (toB (eBin fEq (eV 5) (eK (.int 3)))) (sRet (eTup (aCons (eV 2) (aCons (eV 3) (aCons (eBin fIx (eLst (aCons (eSl (eV 4) (pSome (eK (.int 1))) pNone) (aCons (eBin fAdd (eV 4) (eSl (eV 4) pNone (pSome (eK (.int 1))))) (aCons (eTup aNil) aNil)))) (eCall d__law_taken (aCons (eV 0) (aCons (eK (.int 3)) aNil)))) aNil))))) sNext) (sSeq (sSet 8 (eCall d__law_taken (aCons (eV 0) (aCons (eArgs fMax2 (aCons (eK (.int 1)) (aCons (eArgs fLen (aCons (eV 4) aNil)) aNil))) aNil)))) (sSeq (sSet 9 (eBin fIx (eBin fAdd (eV 4) (eTup (aCons (eTup aNil) aNil))) (eV 8))) (sSeq (sSet 10 (eCall d__law_taken (aCons (eV 0) (aCons (eArgs fMax2 (aCons (eK (.int 1)) (aCons (eArgs fLen (aCons (eV 9) aNil)) aNil))) aNil)))) (sSeq (sSet 11 (eBin fIx (eLst (aCons (eV 10) (aCons (eV 2) (aCons (eBin fSub (eK (.int 0)) (eK (.int 1))) (aCons (eBin fAdd (eV 2) (eV 6)) (aCons (eK (.int 0)) (aCons (eK .non) aNil))))))) (eCall d__law_taken (aCons (eV 0) (aCons (eK (.int 6)) aNil))))) (sSeq (sSet 7 (eLst (aCons (eBin fAdd (eBin fAdd (eSl (eV 9) pNone (pSome (eV 10))) (eTup (aCons (eV 11) aNil))) (eSl (eV 9) (pSome (eBin fAdd (eV 10) (eK (.int 1)))) pNone)) (aCons (eSl (eV 9) (pSome (eK (.int 1))) pNone) (aCons (eBin fAdd (eV 9) (eTup (aCons (eK .non) aNil))) aNil))))) (sSeq (sSet 9 (eBin fIx (eV 7) (eBin fIx (eLst (aCons (eK (.int 0)) (aCons (eK (.int 0)) (aCons (eK (.int 0)) (aCons (eK (.int 1)) (aCons (eK (.int 2)) aNil)))))) (eBin fAdd (eBin fSub (eV 5) (eK (.int 4))) (eCall d__law_taken (aCons (eV 0) (aCons (eK (.int 2)) aNil))))))) (sRet (eTup (aCons (eV 2) (aCons (eV 3) (aCons (eBin fAdd (eBin fAdd (eSl (eV 4) pNone (pSome (eV 8))) (eTup (aCons (eV 9) aNil))) (eSl (eV 4) (pSome (eBin fAdd (eV 8) (eK (.int 1)))) pNone)) aNil)))))))))))))))))
def d__law_spoilt : FD := dDef false 2 12 b__law_spoilt
end HC
namespace K01
open PySem PySem.Spec L2 HD HC
open PyProof.Rows hiding St
def b_need_web : SM := (sSeq (sAsg (eV 0) (gT 3 (gsCons (gN 1) (gsCons (gN 2) (gsCons (gN 3) gsNil))))) (sSeq (sIf (tNot' (toB (eCall (noXF d_is_many) (aCons (eV 1) aNil)))) (sRaise mkWeb (aCons (eK (.str "many")) aNil)) sNext) (sSeq (sIf (tOr' (toB (eBin fNe (eArgs fList (aCons (eV 2) aNil)) (eUn sortSet (eV 2)))) (toB (eBin fNe (eComp (aItems (eV 2)) (gN 5) (tNot' (toB (eChain fLe fLt (eK (.int 1)) (eV 5) (eV 1)))) (eV 5) [5]) (eLst aNil)))) (sRaise mkWeb (aCons (eK (.str "silent")) aNil)) sNext) (sSeq (sIf (toB (eBin fNe (eArgs fLen (aCons (eV 3) aNil)) (eBin fSub (eV 1) (eK (.int 1))))) (sRaise mkWeb (aCons (eK (.str "ways")) aNil)) sNext) (sFor (aRng rng2 (aCons (eK (.int 1)) (aCons (eV 1) aNil))) (gN 4) (sIf (tNot' (toB (eCall (noXF d_is_way) (aCons (eV 1) (aCons (eV 4) (aCons (eBin fIx (eV 3) (eBin fSub (eV 4) (eK (.int 1)))) aNil)))))) (sRaise mkWeb (aCons (eK (.str "ways")) aNil)) sNext))))))
def d_need_web : FD := dDef false 1 6 b_need_web
def b_parting : SM := (sSeq (sExpr (eCall d_need_web (aCons (eV 0) aNil))) (sSeq (sExpr (eCall d_need_web (aCons (eV 1) aNil))) sStuck))
def d_parting : FD := dDef false 2 2 b_parting
def b_alike : SM := (sRet (eUn isNonD (eCall d_parting (aCons (eV 0) (aCons (eV 1) aNil)))))
def d_alike : FD := dDef false 2 2 b_alike
def b_asked : SM := (sSeq (sExpr (eCall d_need_web (aCons (eV 0) aNil))) sStuck)
def d_asked : FD := dDef false 3 3 b_asked
def b_answers : SM := (sSeq (sExpr (eCall d_need_web (aCons (eV 0) aNil))) sStuck)
def d_answers : FD := dDef false 2 2 b_answers
def b_walk : SM := (sSeq (sExpr (eCall d_need_web (aCons (eV 0) aNil))) sStuck)
def d_walk : FD := dDef false 2 5 b_walk
def b_known : SM := (sSeq (sExpr (eCall d_need_web (aCons (eV 0) aNil))) sStuck)
def d_known : FD := dDef false 1 5 b_known
def b_twin : SM := (sSeq (sExpr (eCall d_need_web (aCons (eV 0) aNil))) sStuck)
def d_twin : FD := dDef false 3 3 b_twin
def b_quiet : SM := (sSeq (sExpr (eCall d_need_web (aCons (eV 0) aNil))) sStuck)
def d_quiet : FD := dDef false 1 7 b_quiet
def b_gives_log : SM := (sSeq (sExpr (eCall d_need_web (aCons (eV 0) aNil))) sStuck)
def d_gives_log : FD := dDef false 2 3 b_gives_log
def b_written : SM := (sSeq (sExpr (eCall d_need_web (aCons (eV 0) aNil))) sStuck)
def d_written : FD := dDef false 1 8 b_written
def worksG : List (EM D) := [(eCall d_need_web (aCons (eV 0) aNil)),
  (eCall d_asked (aCons (eV 0) (aCons (eK (.int 0)) (aCons (eK (.int 0)) aNil)))),
  (eCall d_answers (aCons (eV 0) (aCons (eK (.int 0)) aNil))),
  (eCall d_walk (aCons (eV 0) (aCons (eK (.int 0)) aNil))),
  (eCall d_alike (aCons (eV 0) (aCons (eV 1) aNil))),
  (eCall d_parting (aCons (eV 1) (aCons (eV 0) aNil))),
  (eCall d_known (aCons (eV 0) aNil)),
  (eCall d_twin (aCons (eV 0) (aCons (eK (.int 0)) (aCons (eK (.int 0)) aNil)))),
  (eCall d_quiet (aCons (eV 0) aNil)),
  (eCall d_gives_log (aCons (eV 0) (aCons (eLst (aCons (eTup aNil) aNil)) aNil))),
  (eCall d_written (aCons (eV 0) aNil))]
abbrev worksN : List Str := ["_law_web_here", "_law_good"]
noncomputable def b_law : SM := (sSeq (sFor (aRng rng1 (aCons (eK (.int 5)) aNil)) (gN 2) (sSeq (sSet 3 (eCall d__law_web (aCons (eV 1) (aCons (eK (.int 2)) (aCons (eK (.int 6)) aNil))))) (sSeq (sSet 4 (eCall d__law_spoilt (aCons (eV 1) (aCons (eV 3) aNil)))) (sSeq (sIf (toB (eBin fEq (eCall d__law_taken (aCons (eV 1) (aCons (eK (.int 3)) aNil))) (eK (.int 2)))) (sSet 4 (eCall d__law_spoilt (aCons (eV 1) (aCons (eV 4) aNil)))) sNext) (sSeq (sSet 5 (eCall d__law_why (aCons (eV 4) aNil))) (sSeq (sIf (toB (eUn notNonD (eCall d_need_web (aCons (eV 3) aNil)))) (sRet (eK (.bl false))) sNext) (sIf (toB (eUn isNonD (eV 5))) (sIf (toB (eUn notNonD (eCall d_need_web (aCons (eV 4) aNil)))) (sRet (eK (.bl false))) sNext) (sIf (tAllWeb d__law_alike worksN worksG 4 3 5 6) (sRet (eK (.bl false))) sNext)))))))) (sRet (eK (.bl true))))
end K01
end
section
namespace K01
open PySem PySem.Spec L2 HD HC
open PyProof.Rows hiding St
def top (i : Nat) : Stmt := PySem.Challenge.pw_hopmark_k01_webs_that_are_none.main.body.getD i (.Pass ⟨0, 0, 0, 0⟩)
abbrev s_is_many : Stmt := top 10
theorem sc_is_many : FnScope ["many"] ["many"] (defScope s_is_many) := ⟨rfl, rfl, rfl, by decide +kernel, rfl, by decide +kernel, by decide +kernel⟩
abbrev s_is_way : Stmt := top 11
theorem sc_is_way : FnScope ["many", "goal", "way", "post", "there"] ["many", "goal", "way"] (defScope s_is_way) := ⟨rfl, rfl, rfl, by decide +kernel, rfl, by decide +kernel, by decide +kernel⟩
abbrev s_need_web : Stmt := top 12
theorem sc_need_web : FnScope ["web", "many", "silent", "ways", "goal", "post"] ["web"] (defScope s_need_web) := ⟨rfl, rfl, rfl, by decide +kernel, rfl, by decide +kernel, by decide +kernel⟩
abbrev s_parting : Stmt := top 48
theorem sc_parting : FnScope ["web", "other"] ["web", "other"] (defScope s_parting) := ⟨rfl, rfl, rfl, by decide +kernel, rfl, by decide +kernel, by decide +kernel⟩
abbrev s_alike : Stmt := top 49
theorem sc_alike : FnScope ["web", "other"] ["web", "other"] (defScope s_alike) := ⟨rfl, rfl, rfl, by decide +kernel, rfl, by decide +kernel, by decide +kernel⟩
abbrev s_asked : Stmt := top 21
theorem sc_asked : FnScope ["web", "goal", "hops"] ["web", "goal", "hops"] (defScope s_asked) := ⟨rfl, rfl, rfl, by decide +kernel, rfl, by decide +kernel, by decide +kernel⟩
abbrev s_answers : Stmt := top 22
theorem sc_answers : FnScope ["web", "goal"] ["web", "goal"] (defScope s_answers) := ⟨rfl, rfl, rfl, by decide +kernel, rfl, by decide +kernel, by decide +kernel⟩
abbrev s_walk : Stmt := top 23
theorem sc_walk : FnScope ["web", "goal", "way", "posts", "here"] ["web", "goal"] (defScope s_walk) := ⟨rfl, rfl, rfl, by decide +kernel, rfl, by decide +kernel, by decide +kernel⟩
abbrev s_known : Stmt := top 44
theorem sc_known : FnScope ["web", "some", "found", "post", "goal"] ["web"] (defScope s_known) := ⟨rfl, rfl, rfl, by decide +kernel, rfl, by decide +kernel, by decide +kernel⟩
abbrev s_twin : Stmt := top 43
theorem sc_twin : FnScope ["web", "post", "goal"] ["web", "post", "goal"] (defScope s_twin) := ⟨rfl, rfl, rfl, by decide +kernel, rfl, by decide +kernel, by decide +kernel⟩
abbrev s_quiet : Stmt := top 45
theorem sc_quiet : FnScope ["web", "some", "sure", "perhaps", "silent", "ways", "post"] ["web"] (defScope s_quiet) := ⟨rfl, rfl, rfl, by decide +kernel, rfl, by decide +kernel, by decide +kernel⟩
abbrev s_gives_log : Stmt := top 35
theorem sc_gives_log : FnScope ["web", "log", "one"] ["web", "log"] (defScope s_gives_log) := ⟨rfl, rfl, rfl, by decide +kernel, rfl, by decide +kernel, by decide +kernel⟩
abbrev s_written : Stmt := top 52
theorem sc_written : FnScope ["web", "many", "silent", "ways", "rows", "way", "post", "there"] ["web"] (defScope s_written) := ⟨rfl, rfl, rfl, by decide +kernel, rfl, by decide +kernel, by decide +kernel⟩
abbrev s__law_taken : Stmt := top 54
theorem sc__law_taken : FnScope ["_law_row", "_law_many", "_law_cell"] ["_law_row", "_law_many"] (defScope s__law_taken) := ⟨rfl, rfl, rfl, by decide +kernel, rfl, by decide +kernel, by decide +kernel⟩
abbrev s__law_alike : Stmt := top 55
theorem sc__law_alike : FnScope ["_law_found", "_law_due", "_law_k"] ["_law_found", "_law_due"] (defScope s__law_alike) := ⟨rfl, rfl, rfl, by decide +kernel, rfl, by decide +kernel, by decide +kernel⟩
abbrev s__law_way : Stmt := top 56
theorem sc__law_way : FnScope ["_law_row", "_law_many", "_law_goal", "_law_kind", "_law_found", "_law_post", "_law_there", "_law_some"] ["_law_row", "_law_many", "_law_goal", "_law_kind"] (defScope s__law_way) := ⟨rfl, rfl, rfl, by decide +kernel, rfl, by decide +kernel, by decide +kernel⟩
abbrev s__law_web : Stmt := top 57
theorem sc__law_web : FnScope ["_law_row", "_law_least", "_law_most", "_law_many", "_law_often", "_law_silent", "_law_post", "_law_goal"] ["_law_row", "_law_least", "_law_most"] (defScope s__law_web) := ⟨rfl, rfl, rfl, by decide +kernel, rfl, by decide +kernel, by decide +kernel⟩
abbrev s__law_word : Stmt := top 58
theorem sc__law_word : FnScope ["_law_work", "e", "_law_kinds"] ["_law_work"] (defScope s__law_word) := ⟨rfl, rfl, rfl, by decide +kernel, rfl, by decide +kernel, by decide +kernel⟩
abbrev s__law_why : Stmt := top 59
theorem sc__law_why : FnScope ["_law_web_here", "_law_many", "_law_silent", "_law_ways", "_law_post", "_law_goal", "_law_way_here"] ["_law_web_here"] (defScope s__law_why) := ⟨rfl, rfl, rfl, by decide +kernel, rfl, by decide +kernel, by decide +kernel⟩
abbrev s__law_spoilt : Stmt := top 60
theorem sc__law_spoilt : FnScope ["_law_row", "_law_web_here", "_law_many", "_law_silent", "_law_ways", "_law_way_here", "_law_far", "_law_some", "_law_k", "_law_one", "_law_post", "_law_there"] ["_law_row", "_law_web_here"] (defScope s__law_spoilt) := ⟨rfl, rfl, rfl, by decide +kernel, rfl, by decide +kernel, by decide +kernel⟩
abbrev s__law_works : Stmt := top 61
theorem sc__law_works : FnScope ["_law_web_here", "_law_good", "_law_works_here"] ["_law_web_here", "_law_good"] (defScope s__law_works) := ⟨rfl, rfl, rfl, by decide +kernel, rfl, by decide +kernel, by decide +kernel⟩
abbrev s_law : Stmt := top 62
theorem sc_law : FnScope ["_law_script", "_law_row", "_law_turn", "_law_good", "_law_web_here", "_law_why_here", "_law_work"] ["_law_script"] (defScope s_law) := ⟨rfl, rfl, rfl, by decide +kernel, rfl, by decide +kernel, by decide +kernel⟩
def lamI : Expr → LamI
  | .Lambda p b s _ => ⟨p, b, s⟩
  | e => ⟨{ posonlyargs := [], args := [], vararg := none, kwonlyargs := [], kw_defaults := [], kwarg := none, defaults := [] }, e, defScope (.Pass ⟨0, 0, 0, 0⟩)⟩
def lamIn : Stmt → LamI
  | .Assign _ (.List (e :: _) _) _ => lamI e
  | .Expr (.Call _ (e :: _) _ _) _ => lamI e
  | _ => lamI (.Name "" ⟨0, 0, 0, 0⟩)
abbrev worksL (k : Nat) : LamI := lamIn ((defBody s__law_works).getD k (.Pass ⟨0, 0, 0, 0⟩))
abbrev worksLs : List LamI := [worksL 1, worksL 2, worksL 3, worksL 4, worksL 5, worksL 6, worksL 7, worksL 8, worksL 9, worksL 10]
abbrev qW : Str := (("_law_works" : Str) ++ (".<locals>." : Str)) ++ ("<lambda>" : Str)
structure Tx (K : PySem.W.Frag) (mg : Str → Option Value) : Prop where
  b_ValueError : mg "ValueError" = none
  b_bool : mg "bool" = none
  b_int : mg "int" = none
  b_isinstance : mg "isinstance" = none
  b_len : mg "len" = none
  b_list : mg "list" = none
  b_max : mg "max" = none
  b_range : mg "range" = none
  b_set : mg "set" = none
  b_sorted : mg "sorted" = none
  b_str : mg "str" = none
  b_tuple : mg "tuple" = none
  c_LEAST_MANY : ∃ t, mg "LEAST_MANY" = some (.int 2 t)
  c_MOST_MANY : ∃ t, mg "MOST_MANY" = some (.int 6 t)
def mth (st : Stmt) (i : Nat) : Stmt := match st with
  | .ClassDef _ _ _ b _ _ _ _ _ _ _ => b.getD i (.Pass ⟨0, 0, 0, 0⟩)
  | _ => .Pass ⟨0, 0, 0, 0⟩
abbrev s_init : Stmt := mth (top 2) 0
theorem sc_init : FnScope ["self", "word"] ["self", "word"] (defScope s_init) := ⟨rfl, rfl, rfl, by decide +kernel, rfl, by decide +kernel, by decide +kernel⟩
section
variable {P : Program} {w : World} {K : PySem.W.Frag} {mg : Str → Option Value} {base : Heap}
theorem ok_init {f B : Addr} {fd : FuncData} (F : FunD K "__init__" "BadWeb.__init__" (defArgs s_init) (defBody s_init) (defScope s_init) [] [] f fd) (gH : mg "HopError" = some (.ref B)) (hB : BaseC K B) : FnOk P w K mg base (L2.CX P w) 1 f fd ["self", "word"] (spI K "word") :=
  init_ok (fl := "word") F sc_init gH hB (fun _ _ _ _ _ _ => by rfl) (by decide) fun cdv A outer s H E => pss_cons (ps_expr (pe_baseinit (by rfl) gH hB (pa_cons (pv 0) (pa_cons (pv 1) pa_nil)))) (pss_cons (ps_ost (pv 0) (pv 1)) pss_nil)
theorem cal_is_many (T : Tx K mg) (F : FnF K mg "is_many" s_is_many ["many"]) : Cal P w K mg base "is_many" 1 ["many"] false d_is_many := by
  exact cal_of F sc_is_many fun f cdv A outer s H E hr => (dss_one (ds_ret (de_chain op_le op_le (c_int _) (c_int _).op (de_gint rfl T.c_LEAST_MANY) (de_var (pv 0)) (de_gint rfl T.c_MOST_MANY))))
theorem cal_is_way (T : Tx K mg) (F : FnF K mg "is_way" s_is_way ["many", "goal", "way"]) : Cal P w K mg base "is_way" 1 ["many", "goal", "way"] false d_is_way := by
  exact cal_of F sc_is_way fun f cdv A outer s H E hr => (dss_cons (ds_if (PW.pt (dw_or (dt_op (op_neD hr.units) c_ne.op (de_bi call_len a_len (by rfl) T.b_len (by decide +kernel) (da_cons (de_var (pv 2)) da_nil)) (de_var (pv 0)) (nomark _)) (dw_or1 (dt_notN (de_ix ix_seq o_ix (de_var (pv 2)) (de_var (pv 1)) (fun _ _ => rfl)))))) (dss_one (ds_ret de_bl)) dss_nil) (dss_cons (ds_for PassesOwn.never rfl (di_rng1 rfl T.b_range (da_cons (de_var (pv 0)) da_nil)) (dg_name (i := 3) sc_is_way.nd rfl (by first | exact Or.inl rfl | exact Or.inr rfl)) (dss_cons (ds_set (i := 4) sc_is_way.nd rfl (by first | exact Or.inl rfl | exact Or.inr rfl) (de_ix ix_seq o_ix (de_var (pv 2)) (de_var (pv 3)) (fun _ _ => rfl))) (dss_one (ds_if (PW.pt (dw_and (dt_notN (de_var (pv 4))) (dw_and1 (PW.pt (dw_or (dt_not (dt_chain op_le op_lt (c_int _) (c_int _).op de_int (de_var (pv 4)) (de_var (pv 0)))) (dw_or1 (dt_op (op_eqD hr.units) c_eq.op (de_var (pv 4)) (de_var (pv 3)) (nomark _)))))))) (dss_one (ds_ret de_bl)) dss_nil)))) (dss_one (ds_ret de_bl))))
theorem cal_need_web (T : Tx K mg) (F : FnF K mg "need_web" s_need_web ["web"]) (RZ : RzW P w K mg base) (C_is_many : Cal P w K mg base "is_many" 1 ["many"] false d_is_many) (C_is_way : Cal P w K mg base "is_way" 1 ["many", "goal", "way"] false d_is_way) : CalX P w K mg base "need_web" 3 ["web"] d_need_web := by
  exact calX_of F sc_need_web fun f cdv A outer s H E hr => (dss_cons (ds_asg (de_var (pv 0)) (dg_tup rfl (dgs_cons (dg_name (i := 1) sc_need_web.nd rfl (by first | exact Or.inl rfl | exact Or.inr rfl)) (dgs_cons (dg_name (i := 2) sc_need_web.nd rfl (by first | exact Or.inl rfl | exact Or.inr rfl)) (dgs_cons (dg_name (i := 3) sc_need_web.nd rfl (by first | exact Or.inl rfl | exact Or.inr rfl)) dgs_nil))))) (dss_cons (ds_if (dt_not (dt_of (C_is_many.deW (hr.mono (by decide)) (by rfl) (da_cons (de_var (pv 1)) da_nil)))) (dss_one (RZ.ds rfl (takes_of rfl rfl rfl rfl) (hr.mono (by decide)) (by rfl) (da_cons de_str da_nil))) dss_nil) (dss_cons (ds_if (PW.pt (dw_or (dt_op (op_neD hr.units) c_ne.op (de_of (do_bt call_list_of a_list (by rfl) T.b_list (by decide +kernel) (da_cons (de_var (pv 2)) da_nil))) (de_of (do_sortSet (pe_callB (cr_sortedSet rfl) (by rfl) T.b_sorted (by decide +kernel) (pa_cons (pe_callTy (cr_setT rfl) (by rfl) T.b_set (by decide +kernel) (pa_cons (de_var (pv 2)) pa_nil)) pa_nil)))) (nomark _)) (dw_or1 (dt_op (op_neD hr.units) c_ne.op (de_of (do_lc rfl sc_need_web.nd (ow := [("post", 5)]) (di_seq (de_var (pv 2))) (blkOk_by (N := ["web", "many", "silent", "ways", "goal", "post"]) (sc := defScope s_need_web) (by decide +kernel)) (by decide) (fun _ _ _ _ _ => (dg_name (i := 5) sc_need_web.nd rfl (by first | exact Or.inl rfl | exact Or.inr rfl))) (fun _ _ _ _ _ => (dts_one (dt_not (dt_chain op_le op_lt (c_int _) (c_int _).op de_int (de_var (pv 5)) (de_var (pv 1)))))) (fun _ _ _ _ _ => (de_var (pv 5))))) (de_of (do_lst da_nil)) (nomark _))))) (dss_one (RZ.ds rfl (takes_of rfl rfl rfl rfl) (hr.mono (by decide)) (by rfl) (da_cons de_str da_nil))) dss_nil) (dss_cons (ds_if (dt_op (op_neD hr.units) c_ne.op (de_bi call_len a_len (by rfl) T.b_len (by decide +kernel) (da_cons (de_var (pv 3)) da_nil)) (de_op op_sub o_sub (de_var (pv 1)) de_int) (nomark _)) (dss_one (RZ.ds rfl (takes_of rfl rfl rfl rfl) (hr.mono (by decide)) (by rfl) (da_cons de_str da_nil))) dss_nil) (dss_one (ds_for (passes_of rfl) rfl (di_rng2 rfl T.b_range (da_cons de_int (da_cons (de_var (pv 1)) da_nil))) (dg_name (i := 4) sc_need_web.nd rfl (by first | exact Or.inl rfl | exact Or.inr rfl)) (dss_one (ds_if (dt_not (dt_of (C_is_way.deW (hr.mono (by decide)) (by rfl) (da_cons (de_var (pv 1)) (da_cons (de_var (pv 4)) (da_cons (de_ix ix_seq o_ix (de_var (pv 3)) (de_op op_sub o_sub (de_var (pv 4)) de_int) (fun _ _ => rfl)) da_nil)))))) (dss_one (RZ.ds rfl (takes_of rfl rfl rfl rfl) (hr.mono (by decide)) (by rfl) (da_cons de_str da_nil))) dss_nil))))))))
theorem cal_parting (T : Tx K mg) (F : FnF K mg "parting" s_parting ["web", "other"]) (RZ : RzW P w K mg base) (C_need_web : CalX P w K mg base "need_web" 3 ["web"] d_need_web) : CalX P w K mg base "parting" 4 ["web", "other"] d_parting := by
  exact calX_of F sc_parting fun f cdv A outer s H E hr => (dss_cons (ds_expr (C_need_web.de (takes_of rfl rfl rfl rfl) (hr.mono (by decide)) (by rfl) (da_cons (de_var (pv 0)) da_nil))) (dss_cons (ds_expr (C_need_web.de (takes_of rfl rfl rfl rfl) (hr.mono (by decide)) (by rfl) (da_cons (de_var (pv 1)) da_nil))) dss_never))
theorem cal_alike (T : Tx K mg) (F : FnF K mg "alike" s_alike ["web", "other"]) (RZ : RzW P w K mg base) (C_parting : CalX P w K mg base "parting" 4 ["web", "other"] d_parting) : CalX P w K mg base "alike" 5 ["web", "other"] d_alike := by
  exact calX_of F sc_alike fun f cdv A outer s H E hr => (dss_one (ds_ret (de_isN (C_parting.de (takes_of rfl rfl rfl rfl) (hr.mono (by decide)) (by rfl) (da_cons (de_var (pv 0)) (da_cons (de_var (pv 1)) da_nil))))))
theorem cal_asked (T : Tx K mg) (F : FnF K mg "asked" s_asked ["web", "goal", "hops"]) (RZ : RzW P w K mg base) (C_need_web : CalX P w K mg base "need_web" 3 ["web"] d_need_web) : CalX P w K mg base "asked" 4 ["web", "goal", "hops"] d_asked := by
  exact calX_of F sc_asked fun f cdv A outer s H E hr => (dss_cons (ds_expr (C_need_web.de (takes_of rfl rfl rfl rfl) (hr.mono (by decide)) (by rfl) (da_cons (de_var (pv 0)) da_nil))) dss_never)
theorem cal_answers (T : Tx K mg) (F : FnF K mg "answers" s_answers ["web", "goal"]) (RZ : RzW P w K mg base) (C_need_web : CalX P w K mg base "need_web" 3 ["web"] d_need_web) : CalX P w K mg base "answers" 4 ["web", "goal"] d_answers := by
  exact calX_of F sc_answers fun f cdv A outer s H E hr => (dss_cons (ds_expr (C_need_web.de (takes_of rfl rfl rfl rfl) (hr.mono (by decide)) (by rfl) (da_cons (de_var (pv 0)) da_nil))) dss_never)
theorem cal_walk (T : Tx K mg) (F : FnF K mg "walk" s_walk ["web", "goal"]) (RZ : RzW P w K mg base) (C_need_web : CalX P w K mg base "need_web" 3 ["web"] d_need_web) : CalX P w K mg base "walk" 4 ["web", "goal"] d_walk := by
  exact calX_of F sc_walk fun f cdv A outer s H E hr => (dss_cons (ds_expr (C_need_web.de (takes_of rfl rfl rfl rfl) (hr.mono (by decide)) (by rfl) (da_cons (de_var (pv 0)) da_nil))) dss_never)
theorem cal_known (T : Tx K mg) (F : FnF K mg "known" s_known ["web"]) (RZ : RzW P w K mg base) (C_need_web : CalX P w K mg base "need_web" 3 ["web"] d_need_web) : CalX P w K mg base "known" 4 ["web"] d_known := by
  exact calX_of F sc_known fun f cdv A outer s H E hr => (dss_cons (ds_expr (C_need_web.de (takes_of rfl rfl rfl rfl) (hr.mono (by decide)) (by rfl) (da_cons (de_var (pv 0)) da_nil))) dss_never)
theorem cal_twin (T : Tx K mg) (F : FnF K mg "twin" s_twin ["web", "post", "goal"]) (RZ : RzW P w K mg base) (C_need_web : CalX P w K mg base "need_web" 3 ["web"] d_need_web) : CalX P w K mg base "twin" 4 ["web", "post", "goal"] d_twin := by
  exact calX_of F sc_twin fun f cdv A outer s H E hr => (dss_cons (ds_expr (C_need_web.de (takes_of rfl rfl rfl rfl) (hr.mono (by decide)) (by rfl) (da_cons (de_var (pv 0)) da_nil))) dss_never)
theorem cal_quiet (T : Tx K mg) (F : FnF K mg "quiet" s_quiet ["web"]) (RZ : RzW P w K mg base) (C_need_web : CalX P w K mg base "need_web" 3 ["web"] d_need_web) : CalX P w K mg base "quiet" 4 ["web"] d_quiet := by
  exact calX_of F sc_quiet fun f cdv A outer s H E hr => (dss_cons (ds_expr (C_need_web.de (takes_of rfl rfl rfl rfl) (hr.mono (by decide)) (by rfl) (da_cons (de_var (pv 0)) da_nil))) dss_never)
theorem cal_gives_log (T : Tx K mg) (F : FnF K mg "gives_log" s_gives_log ["web", "log"]) (RZ : RzW P w K mg base) (C_need_web : CalX P w K mg base "need_web" 3 ["web"] d_need_web) : CalX P w K mg base "gives_log" 4 ["web", "log"] d_gives_log := by
  exact calX_of F sc_gives_log fun f cdv A outer s H E hr => (dss_cons (ds_expr (C_need_web.de (takes_of rfl rfl rfl rfl) (hr.mono (by decide)) (by rfl) (da_cons (de_var (pv 0)) da_nil))) dss_never)
theorem cal_written (T : Tx K mg) (F : FnF K mg "written" s_written ["web"]) (RZ : RzW P w K mg base) (C_need_web : CalX P w K mg base "need_web" 3 ["web"] d_need_web) : CalX P w K mg base "written" 4 ["web"] d_written := by
  exact calX_of F sc_written fun f cdv A outer s H E hr => (dss_cons (ds_expr (C_need_web.de (takes_of rfl rfl rfl rfl) (hr.mono (by decide)) (by rfl) (da_cons (de_var (pv 0)) da_nil))) dss_never)
theorem cal__law_taken (T : Tx K mg) (F : FnF K mg "_law_taken" s__law_taken ["_law_row", "_law_many"]) : Cal P w K mg base "_law_taken" 1 ["_law_row", "_law_many"] false d__law_taken := by
  exact cal_of F sc__law_taken fun f cdv A outer s H E hr => (dss_cons (ds_row (ps_asg (de_op op_add4 o_add (de_row (pe_ix ix_list (pv 0) pe_int (fun _ _ => rfl))) de_int) (pg_sub (pv 0) pe_int set_list))) (dss_cons (ds_if (dt_op op_gt (c_int _).op (de_row (pe_ix ix_list (pv 0) pe_int (fun _ _ => rfl))) (de_bi call_len a_len (by rfl) T.b_len (by decide +kernel) (da_cons (de_row (pe_ix ix_list (pv 0) pe_int (fun _ _ => rfl))) da_nil)) (nomark _)) (dss_cons (ds_row (ps_asg (de_op op_mod o_mod (de_op op_add4 o_add (de_op op_mul2 o_mul (de_row (pe_ix ix_list (pv 0) pe_int (fun _ _ => rfl))) de_int) de_int) de_int) (pg_sub (pv 0) pe_int set_list))) (dss_one (ds_ret (de_op op_mod o_mod (de_op op_fdiv o_fdiv (de_row (pe_ix ix_list (pv 0) pe_int (fun _ _ => rfl))) de_int) (de_var (pv 1)))))) dss_nil) (dss_cons (ds_set (i := 2) sc__law_taken.nd rfl (by first | exact Or.inl rfl | exact Or.inr rfl) (de_ix ix_seq o_ix (de_row (pe_ix ix_list (pv 0) pe_int (fun _ _ => rfl))) (de_op op_sub o_sub (de_row (pe_ix ix_list (pv 0) pe_int (fun _ _ => rfl))) de_int) (fun _ _ => rfl))) (dss_cons (ds_row (ps_asg (de_op op_mod o_mod (de_op op_add4 o_add (de_op op_add4 o_add (de_op op_mul2 o_mul (de_row (pe_ix ix_list (pv 0) pe_int (fun _ _ => rfl))) de_int) (de_var (pv 2))) de_int) de_int) (pg_sub (pv 0) pe_int set_list))) (dss_one (ds_ret (de_op op_mod o_mod (de_var (pv 2)) (de_var (pv 1)))))))))
theorem rec__law_alike (T : Tx K mg) (F : FnF K mg "_law_alike" s__law_alike ["_law_found", "_law_due"]) : ∀ n : Nat, Cal P w K mg base "_law_alike" n ["_law_found", "_law_due"] false (r__law_alike n)
  | 0 => cal_zero F
  | n + 1 => by
    have C__law_alike := rec__law_alike T F n
    exact cal_of F sc__law_alike fun f cdv A outer s H E hr => (dss_cons (ds_if (PW.pt (dw_or (dt_of (de_bi call_isi a_isi (by rfl) T.b_isinstance (by decide +kernel) (da_cons (de_var (pv 1)) (da_cons (de_gty (by rfl) T.b_tuple (by decide +kernel)) da_nil)))) (dw_or1 (dt_of (de_bi call_isi a_isi (by rfl) T.b_isinstance (by decide +kernel) (da_cons (de_var (pv 1)) (da_cons (de_gty (by rfl) T.b_list (by decide +kernel)) da_nil))))))) (dss_cons (ds_if (PW.pt (dw_or (dt_op (op_neD hr.units) c_ne.op (de_bi call_isi a_isi (by rfl) T.b_isinstance (by decide +kernel) (da_cons (de_var (pv 0)) (da_cons (de_gty (by rfl) T.b_tuple (by decide +kernel)) da_nil))) (de_bi call_isi a_isi (by rfl) T.b_isinstance (by decide +kernel) (da_cons (de_var (pv 1)) (da_cons (de_gty (by rfl) T.b_tuple (by decide +kernel)) da_nil))) (nomark _)) (dw_or1 (dt_not (dt_of (de_isi2 (pe_callB call_isiT (by rfl) T.b_isinstance (by decide +kernel) (pa_cons (de_var (pv 0)) (pa_cons (pe_tup (pa_cons (pe_bltn (v := .ty "tuple") (by rfl) T.b_tuple (by decide +kernel) rfl) (pa_cons (pe_bltn (v := .ty "list") (by rfl) T.b_list (by decide +kernel) rfl) pa_nil))) pa_nil))))))))) (dss_one (ds_ret de_bl)) dss_nil) (dss_cons (ds_if (dt_op (op_neD hr.units) c_ne.op (de_bi call_len a_len (by rfl) T.b_len (by decide +kernel) (da_cons (de_var (pv 0)) da_nil)) (de_bi call_len a_len (by rfl) T.b_len (by decide +kernel) (da_cons (de_var (pv 1)) da_nil)) (nomark _)) (dss_one (ds_ret de_bl)) dss_nil) (dss_one (ds_ret (de_cmp (op_eqD hr.units) c_eq.op (de_of (do_lc rfl sc__law_alike.nd (ow := [("_law_k", 2)]) (di_rng1 rfl T.b_range (da_cons (de_bi call_len a_len (by rfl) T.b_len (by decide +kernel) (da_cons (de_var (pv 1)) da_nil)) da_nil)) (blkOk_by (N := ["_law_found", "_law_due", "_law_k"]) (sc := defScope s__law_alike) (by decide +kernel)) (by decide) (fun _ _ _ _ _ => (dg_name (i := 2) sc__law_alike.nd rfl (by first | exact Or.inl rfl | exact Or.inr rfl))) (fun _ _ _ _ _ => (dts_one (dt_not (dt_of (C__law_alike.de hr (by rfl) (da_cons (de_ix ix_seq o_ix (de_var (pv 0)) (de_var (pv 2)) (fun _ _ => rfl)) (da_cons (de_ix ix_seq o_ix (de_var (pv 1)) (de_var (pv 2)) (fun _ _ => rfl)) da_nil))))))) (fun _ _ _ _ _ => (de_var (pv 2))))) (de_of (do_lst da_nil)) (nomark _)))))) dss_nil) (dss_cons (ds_if (PW.pt (dw_or (dt_isN (de_var (pv 1))) (dw_or1 (dt_isN (de_var (pv 0)))))) (dss_one (ds_ret (de_and (de_isN (de_var (pv 1))) (de_one (de_isN (de_var (pv 0))))))) dss_nil) (dss_cons (ds_if (PW.pt (dw_or (dt_of (de_bi call_isi a_isi (by rfl) T.b_isinstance (by decide +kernel) (da_cons (de_var (pv 1)) (da_cons (de_gty (by rfl) T.b_bool (by decide +kernel)) da_nil)))) (dw_or1 (dt_of (de_bi call_isi a_isi (by rfl) T.b_isinstance (by decide +kernel) (da_cons (de_var (pv 0)) (da_cons (de_gty (by rfl) T.b_bool (by decide +kernel)) da_nil))))))) (dss_one (ds_ret (de_and (de_bi call_isi a_isi (by rfl) T.b_isinstance (by decide +kernel) (da_cons (de_var (pv 1)) (da_cons (de_gty (by rfl) T.b_bool (by decide +kernel)) da_nil))) (de_and (de_bi call_isi a_isi (by rfl) T.b_isinstance (by decide +kernel) (da_cons (de_var (pv 0)) (da_cons (de_gty (by rfl) T.b_bool (by decide +kernel)) da_nil))) (de_one (de_cmp (op_eqD hr.units) c_eq.op (de_var (pv 0)) (de_var (pv 1)) (nomark _))))))) dss_nil) (dss_cons (ds_if (dt_of (de_bi call_isi a_isi (by rfl) T.b_isinstance (by decide +kernel) (da_cons (de_var (pv 1)) (da_cons (de_gty (by rfl) T.b_str (by decide +kernel)) da_nil)))) (dss_one (ds_ret (de_and (de_bi call_isi a_isi (by rfl) T.b_isinstance (by decide +kernel) (da_cons (de_var (pv 0)) (da_cons (de_gty (by rfl) T.b_str (by decide +kernel)) da_nil))) (de_one (de_cmp (op_eqD hr.units) c_eq.op (de_var (pv 0)) (de_var (pv 1)) (nomark _)))))) dss_nil) (dss_one (ds_ret (de_and (de_bi call_isi a_isi (by rfl) T.b_isinstance (by decide +kernel) (da_cons (de_var (pv 0)) (da_cons (de_gty (by rfl) T.b_int (by decide +kernel)) da_nil))) (de_one (de_cmp (op_eqD hr.units) c_eq.op (de_var (pv 0)) (de_var (pv 1)) (nomark _))))))))))
theorem cal__law_alike (T : Tx K mg) (F : FnF K mg "_law_alike" s__law_alike ["_law_found", "_law_due"]) : Cal P w K mg base "_law_alike" 6 ["_law_found", "_law_due"] false d__law_alike := rec__law_alike T F 6
theorem cal__law_way (T : Tx K mg) (F : FnF K mg "_law_way" s__law_way ["_law_row", "_law_many", "_law_goal", "_law_kind"]) (C__law_taken : Cal P w K mg base "_law_taken" 1 ["_law_row", "_law_many"] false d__law_taken) : Cal P w K mg base "_law_way" 2 ["_law_row", "_law_many", "_law_goal", "_law_kind"] false d__law_way := by
  exact cal_of F sc__law_way fun f cdv A outer s H E hr => (dss_cons (ds_setO (i := 4) sc__law_way.nd rfl (by first | exact Or.inl rfl | exact Or.inr rfl) (do_lst da_nil)) (dss_cons (ds_for PassesOwn.never rfl (di_rng1 rfl T.b_range (da_cons (de_var (pv 1)) da_nil)) (dg_name (i := 5) sc__law_way.nd rfl (by first | exact Or.inl rfl | exact Or.inr rfl)) (dss_cons (ds_setLc (i := 7) rfl sc__law_way.nd rfl rfl (sw_true rfl rfl rfl (by decide +kernel)) (ow := [("_law_there", 6)]) (di_rng1 rfl T.b_range (da_cons (de_var (pv 1)) da_nil)) (blkOk_by (N := ["_law_row", "_law_many", "_law_goal", "_law_kind", "_law_found", "_law_post", "_law_there", "_law_some"]) (sc := defScope s__law_way) (by decide +kernel)) (by decide) (fun _ _ _ _ _ => (dg_name (i := 6) sc__law_way.nd rfl (by first | exact Or.inl rfl | exact Or.inr rfl))) (fun _ _ _ _ _ => (dts_one (dt_op (op_neD hr.units) c_ne.op (de_var (pv 6)) (de_var (pv 5)) (nomark _)))) (fun _ _ _ _ _ => (de_var (pv 6)))) (dss_cons (ds_set (i := 6) sc__law_way.nd rfl (by first | exact Or.inl rfl | exact Or.inr rfl) (de_ix ix_seq o_ix (de_var (pv 7)) (C__law_taken.de (hr.mono (by decide)) (by rfl) (da_cons (de_var (pv 0)) (da_cons (de_bi call_len a_len (by rfl) T.b_len (by decide +kernel) (da_cons (de_var (pv 7)) da_nil)) da_nil))) (fun _ _ => rfl))) (dss_cons (ds_if (PW.pt (dw_or (PW.pt (dw_and (dt_op (op_eqD hr.units) c_eq.op (de_var (pv 3)) de_int (nomark _)) (dw_and1 (dt_op (op_eqD hr.units) c_eq.op (C__law_taken.de (hr.mono (by decide)) (by rfl) (da_cons (de_var (pv 0)) (da_cons de_int da_nil))) de_int (nomark _))))) (dw_or1 (PW.pt (dw_and (dt_op (op_eqD hr.units) c_eq.op (de_var (pv 3)) de_int (nomark _)) (dw_and1 (dt_op (op_eqD hr.units) c_eq.op (C__law_taken.de (hr.mono (by decide)) (by rfl) (da_cons (de_var (pv 0)) (da_cons de_int da_nil))) de_int (nomark _)))))))) (dss_one (ds_set (i := 6) sc__law_way.nd rfl (by first | exact Or.inl rfl | exact Or.inr rfl) de_non)) dss_nil) (dss_cons (ds_if (PW.pt (dw_and (dt_op (op_eqD hr.units) c_eq.op (de_var (pv 3)) de_int (nomark _)) (dw_and1 (dt_op op_gt (c_int _).op (C__law_taken.de (hr.mono (by decide)) (by rfl) (da_cons (de_var (pv 0)) (da_cons de_int da_nil))) de_int (nomark _))))) (dss_one (ds_set (i := 6) sc__law_way.nd rfl (by first | exact Or.inl rfl | exact Or.inr rfl) (de_op op_mod o_mod (de_op op_add4 o_add (de_var (pv 5)) de_int) (de_var (pv 1))))) dss_nil) (dss_one (ds_mut (ps_expr (pe_bm PySem.F.plainAttrs_list PySem.F.slot_list_append PySem.F.type_list_append mt_append (pv 4) (da_cons (de_if (dt_op (op_eqD hr.units) c_eq.op (de_var (pv 5)) (de_var (pv 2)) (nomark _)) de_non (de_var (pv 6))) da_nil))) mut_append))))))) (dss_one (ds_ret (de_tupO (pe_callTy call_tuple_of (by rfl) T.b_tuple (by decide +kernel) (pa_cons (pv 4) pa_nil)))))))
theorem cal__law_web (T : Tx K mg) (F : FnF K mg "_law_web" s__law_web ["_law_row", "_law_least", "_law_most"]) (C__law_taken : Cal P w K mg base "_law_taken" 1 ["_law_row", "_law_many"] false d__law_taken) (C__law_way : Cal P w K mg base "_law_way" 2 ["_law_row", "_law_many", "_law_goal", "_law_kind"] false d__law_way) : Cal P w K mg base "_law_web" 3 ["_law_row", "_law_least", "_law_most"] false d__law_web := by
  exact cal_of F sc__law_web fun f cdv A outer s H E hr => (dss_cons (ds_set (i := 3) sc__law_web.nd rfl (by first | exact Or.inl rfl | exact Or.inr rfl) (de_op op_add4 o_add (de_var (pv 1)) (C__law_taken.de (hr.mono (by decide)) (by rfl) (da_cons (de_var (pv 0)) (da_cons (de_op op_add4 o_add (de_op op_sub o_sub (de_var (pv 2)) (de_var (pv 1))) de_int) da_nil))))) (dss_cons (ds_set (i := 4) sc__law_web.nd rfl (by first | exact Or.inl rfl | exact Or.inr rfl) (de_ix ix_seq o_ix (de_of (do_lst (da_cons de_int (da_cons de_int (da_cons de_int da_nil))))) (C__law_taken.de (hr.mono (by decide)) (by rfl) (da_cons (de_var (pv 0)) (da_cons de_int da_nil))) (fun _ _ => rfl))) (dss_cons (ds_setLc (i := 5) rfl sc__law_web.nd rfl rfl (sw_true rfl rfl rfl (by decide +kernel)) (ow := [("_law_post", 6)]) (di_rng2 rfl T.b_range (da_cons de_int (da_cons (de_var (pv 3)) da_nil))) (blkOk_by (N := ["_law_row", "_law_least", "_law_most", "_law_many", "_law_often", "_law_silent", "_law_post", "_law_goal"]) (sc := defScope s__law_web) (by decide +kernel)) (by decide) (fun _ _ _ _ _ => (dg_name (i := 6) sc__law_web.nd rfl (by first | exact Or.inl rfl | exact Or.inr rfl))) (fun _ _ _ _ _ => (dts_one (dt_op (op_eqD hr.units) c_eq.op (C__law_taken.de (hr.mono (by decide)) (by rfl) (da_cons (de_var (pv 0)) (da_cons (de_var (pv 4)) da_nil))) de_int (nomark _)))) (fun _ _ _ _ _ => (de_var (pv 6)))) (dss_one (ds_ret (de_tup (da_cons (de_var (pv 3)) (da_cons (de_bt call_tuple_of a_tuple (by rfl) T.b_tuple (by decide +kernel) (da_cons (de_var (pv 5)) da_nil)) (da_cons (de_bt call_tuple_of a_tuple (by rfl) T.b_tuple (by decide +kernel) (da_cons (de_of (do_lc rfl sc__law_web.nd (ow := [("_law_goal", 7)]) (di_rng2 rfl T.b_range (da_cons de_int (da_cons (de_var (pv 3)) da_nil))) (blkOk_by (N := ["_law_row", "_law_least", "_law_most", "_law_many", "_law_often", "_law_silent", "_law_post", "_law_goal"]) (sc := defScope s__law_web) (by decide +kernel)) (by decide) (fun _ _ _ _ _ => (dg_name (i := 7) sc__law_web.nd rfl (by first | exact Or.inl rfl | exact Or.inr rfl))) (fun _ _ _ _ _ => dts_nil) (fun _ _ _ _ _ => (C__law_way.de (hr.mono (by decide)) (by rfl) (da_cons (de_var (pv 0)) (da_cons (de_var (pv 3)) (da_cons (de_var (pv 7)) (da_cons (C__law_taken.de (hr.mono (by decide)) (by rfl) (da_cons (de_var (pv 0)) (da_cons de_int da_nil))) da_nil)))))))) da_nil)) da_nil)))))))))
theorem lams_ok (T : Tx K mg) (C_need_web : CalX P w K mg base "need_web" 3 ["web"] d_need_web) (C_asked : CalX P w K mg base "asked" 4 ["web", "goal", "hops"] d_asked) (C_answers : CalX P w K mg base "answers" 4 ["web", "goal"] d_answers) (C_walk : CalX P w K mg base "walk" 4 ["web", "goal"] d_walk) (C_alike : CalX P w K mg base "alike" 5 ["web", "other"] d_alike) (C_parting : CalX P w K mg base "parting" 4 ["web", "other"] d_parting) (C_known : CalX P w K mg base "known" 4 ["web"] d_known) (C_twin : CalX P w K mg base "twin" 4 ["web", "post", "goal"] d_twin) (C_quiet : CalX P w K mg base "quiet" 4 ["web"] d_quiet) (C_gives_log : CalX P w K mg base "gives_log" 4 ["web", "log"] d_gives_log) (C_written : CalX P w K mg base "written" 4 ["web"] d_written) : Paired (LamOk P w K mg base 5 qW worksN) (worksL 0 :: worksLs) worksG :=
  (.cons ⟨⟨rfl, rfl, rfl, by decide +kernel⟩, fun _ _ _ _ => rfl, fun f c' cl A outer s H E hr => (C_need_web.de (takes_of rfl rfl rfl rfl) (hr.mono (by decide)) (by rfl) (da_cons (de_var (pv 0)) da_nil))⟩
    (.cons ⟨⟨rfl, rfl, rfl, by decide +kernel⟩, fun _ _ _ _ => rfl, fun f c' cl A outer s H E hr => (C_asked.de (takes_of rfl rfl rfl rfl) (hr.mono (by decide)) (by rfl) (da_cons (de_var (pv 0)) (da_cons de_int (da_cons de_int da_nil))))⟩
    (.cons ⟨⟨rfl, rfl, rfl, by decide +kernel⟩, fun _ _ _ _ => rfl, fun f c' cl A outer s H E hr => (C_answers.de (takes_of rfl rfl rfl rfl) (hr.mono (by decide)) (by rfl) (da_cons (de_var (pv 0)) (da_cons de_int da_nil)))⟩
    (.cons ⟨⟨rfl, rfl, rfl, by decide +kernel⟩, fun _ _ _ _ => rfl, fun f c' cl A outer s H E hr => (C_walk.de (takes_of rfl rfl rfl rfl) (hr.mono (by decide)) (by rfl) (da_cons (de_var (pv 0)) (da_cons de_int da_nil)))⟩
    (.cons ⟨⟨rfl, rfl, rfl, by decide +kernel⟩, fun _ _ _ _ => rfl, fun f c' cl A outer s H E hr => (C_alike.de (takes_of rfl rfl rfl rfl) (hr.mono (by decide)) (by rfl) (da_cons (de_var (pv 0)) (da_cons (de_var (pv 1)) da_nil)))⟩
    (.cons ⟨⟨rfl, rfl, rfl, by decide +kernel⟩, fun _ _ _ _ => rfl, fun f c' cl A outer s H E hr => (C_parting.de (takes_of rfl rfl rfl rfl) (hr.mono (by decide)) (by rfl) (da_cons (de_var (pv 1)) (da_cons (de_var (pv 0)) da_nil)))⟩
    (.cons ⟨⟨rfl, rfl, rfl, by decide +kernel⟩, fun _ _ _ _ => rfl, fun f c' cl A outer s H E hr => (C_known.de (takes_of rfl rfl rfl rfl) (hr.mono (by decide)) (by rfl) (da_cons (de_var (pv 0)) da_nil))⟩
    (.cons ⟨⟨rfl, rfl, rfl, by decide +kernel⟩, fun _ _ _ _ => rfl, fun f c' cl A outer s H E hr => (C_twin.de (takes_of rfl rfl rfl rfl) (hr.mono (by decide)) (by rfl) (da_cons (de_var (pv 0)) (da_cons de_int (da_cons de_int da_nil))))⟩
    (.cons ⟨⟨rfl, rfl, rfl, by decide +kernel⟩, fun _ _ _ _ => rfl, fun f c' cl A outer s H E hr => (C_quiet.de (takes_of rfl rfl rfl rfl) (hr.mono (by decide)) (by rfl) (da_cons (de_var (pv 0)) da_nil))⟩
    (.cons ⟨⟨rfl, rfl, rfl, by decide +kernel⟩, fun _ _ _ _ => rfl, fun f c' cl A outer s H E hr => (C_gives_log.de (takes_of rfl rfl rfl rfl) (hr.mono (by decide)) (by rfl) (da_cons (de_var (pv 0)) (da_cons (de_of (do_lst (da_cons (de_tup da_nil) da_nil))) da_nil)))⟩
    (.cons ⟨⟨rfl, rfl, rfl, by decide +kernel⟩, fun _ _ _ _ => rfl, fun f c' cl A outer s H E hr => (C_written.de (takes_of rfl rfl rfl rfl) (hr.mono (by decide)) (by rfl) (da_cons (de_var (pv 0)) da_nil))⟩
    .nil)))))))))))
theorem cal__law_word {Cw Ca Cl Ct Ch : Addr} (T : Tx K mg) (F : FnF K mg "_law_word" s__law_word ["_law_work"]) (EX : ExW K mg Cw Ca Cl Ct Ch) (C_need_web : CalX P w K mg base "need_web" 3 ["web"] d_need_web) (C_asked : CalX P w K mg base "asked" 4 ["web", "goal", "hops"] d_asked) (C_answers : CalX P w K mg base "answers" 4 ["web", "goal"] d_answers) (C_walk : CalX P w K mg base "walk" 4 ["web", "goal"] d_walk) (C_alike : CalX P w K mg base "alike" 5 ["web", "other"] d_alike) (C_parting : CalX P w K mg base "parting" 4 ["web", "other"] d_parting) (C_known : CalX P w K mg base "known" 4 ["web"] d_known) (C_twin : CalX P w K mg base "twin" 4 ["web", "post", "goal"] d_twin) (C_quiet : CalX P w K mg base "quiet" 4 ["web"] d_quiet) (C_gives_log : CalX P w K mg base "gives_log" 4 ["web", "log"] d_gives_log) (C_written : CalX P w K mg base "written" 4 ["web"] d_written) : CalZ P w K mg base "_law_word" 7 ["_law_work"] (spWord K qW worksN (worksL 0 :: worksLs) worksG) := by
  exact word_cal F sc__law_word rfl EX.k EX.gw fun f cdv A outer s H E hr =>
    (pss_cons (ps_try_as (i := 1) (c := .ref Ch) (tb := fun W => tDrop (fun σ H Q => ∃ f, σ[0]? = some (some (.ref f)) ∧ zD K mg qW worksN (worksL 0 :: worksLs) worksG f H Q (WE W σ))) (ts := tsW K Cw Ca Cl Ct) (Wout := fun _ _ _ _ => False) rfl rfl sc__law_word.nd rfl (by rfl) ⟨by rfl, by decide, .inl EX.gh⟩ LamX.takes0
    (fun W pn xe tk _ => pss_one (ps_expr (pe_actZ (zD_run (by decide) (lams_ok T C_need_web C_asked C_answers C_walk C_alike C_parting C_known C_twin C_quiet C_gives_log C_written)) hr (fun σ => passAt tk σ) rfl (.inl rfl))))
    (fun a oe cls d pn hz hf => (pss_cons (ps_set (i := 2) sc__law_word.nd rfl (by first | exact Or.inl rfl | exact Or.inr rfl) (pe_lst (pa_cons (pe_callB (call_isX EX.is_ hz hf) (by rfl) T.b_isinstance (by decide +kernel) (pa_cons (pv 1) (pa_cons (pe_glob (v := .ref _) (by rfl) EX.ga rfl) pa_nil))) (pa_cons (pe_callB (call_isX EX.is_ hz hf) (by rfl) T.b_isinstance (by decide +kernel) (pa_cons (pv 1) (pa_cons (pe_glob (v := .ref _) (by rfl) EX.gl rfl) pa_nil))) (pa_cons (pe_callB (call_isX EX.is_ hz hf) (by rfl) T.b_isinstance (by decide +kernel) (pa_cons (pv 1) (pa_cons (pe_glob (v := .ref _) (by rfl) EX.gt rfl) pa_nil))) (pa_cons (pe_callB (call_isX EX.is_ hz hf) (by rfl) T.b_isinstance (by decide +kernel) (pa_cons (pv 1) (pa_cons (pe_glob (v := .ref _) (by rfl) EX.gw rfl) pa_nil))) pa_nil))))))
    (pss_cons (ps_if (PW.pt (pw_or (pt_not (pt_val (pe_callB (call_isX EX.is_ hz hf) (by rfl) T.b_isinstance (by decide +kernel) (pa_cons (pv 1) (pa_cons (pe_bltn (v := .ty "ValueError") (by rfl) T.b_ValueError (by decide +kernel) rfl) pa_nil))))) (pw_or1 (pt_cmpR op_ne (pe_bm PySem.F.plainAttrs_list PySem.F.slot_list_count PySem.F.type_list_count mt_countB (pv 2) (pa_cons pe_bl pa_nil)) pe_int (nomark _))))) pss_no pss_nil)
    (pss_cons (ps_if (pt_val (pe_ix ix_seq (pv 2) pe_int (fun _ _ => rfl))) pss_no pss_nil) (pss_cons (ps_if (pt_val (pe_ix ix_seq (pv 2) pe_int (fun _ _ => rfl))) pss_no pss_nil) (pss_cons (ps_ret (pe_ifExp (pt_val (pe_ix ix_seq (pv 2) pe_int (fun _ _ => rfl))) pe_no (pe_tup (pa_cons pe_str (pa_cons (pe_xf EX.is_.x EX.no hz hf (pv 1)) pa_nil))))) pss_nil))))))) (pss_cons (ps_ret (pe_tup (pa_cons pe_str (pa_cons pe_non pa_nil)))) pss_nil))
theorem cal__law_why (T : Tx K mg) (F : FnF K mg "_law_why" s__law_why ["_law_web_here"]) : Cal P w K mg base "_law_why" 1 ["_law_web_here"] false d__law_why := by
  exact cal_of F sc__law_why fun f cdv A outer s H E hr => (dss_cons (ds_asg (de_var (pv 0)) (dg_tup rfl (dgs_cons (dg_name (i := 1) sc__law_why.nd rfl (by first | exact Or.inl rfl | exact Or.inr rfl)) (dgs_cons (dg_name (i := 2) sc__law_why.nd rfl (by first | exact Or.inl rfl | exact Or.inr rfl)) (dgs_cons (dg_name (i := 3) sc__law_why.nd rfl (by first | exact Or.inl rfl | exact Or.inr rfl)) dgs_nil))))) (dss_cons (ds_if (dt_not (dt_chain op_le op_le (c_int _) (c_int _).op de_int (de_var (pv 1)) de_int)) (dss_one (ds_ret de_str)) dss_nil) (dss_cons (ds_if (dt_op (op_neD hr.units) c_ne.op (de_of (do_bt call_list_of a_list (by rfl) T.b_list (by decide +kernel) (da_cons (de_var (pv 2)) da_nil))) (de_of (do_lc rfl sc__law_why.nd (ow := [("_law_post", 4)]) (di_rng2 rfl T.b_range (da_cons de_int (da_cons (de_var (pv 1)) da_nil))) (blkOk_by (N := ["_law_web_here", "_law_many", "_law_silent", "_law_ways", "_law_post", "_law_goal", "_law_way_here"]) (sc := defScope s__law_why) (by decide +kernel)) (by decide) (fun _ _ _ _ _ => (dg_name (i := 4) sc__law_why.nd rfl (by first | exact Or.inl rfl | exact Or.inr rfl))) (fun _ _ _ _ _ => (dts_one (dt_op (op_in2 (hu65 hr)) c_in.op (de_var (pv 4)) (de_var (pv 2)) (by rfl)))) (fun _ _ _ _ _ => (de_var (pv 4))))) (nomark _)) (dss_one (ds_ret de_str)) dss_nil) (dss_cons (ds_if (dt_op (op_neD hr.units) c_ne.op (de_bi call_len a_len (by rfl) T.b_len (by decide +kernel) (da_cons (de_var (pv 3)) da_nil)) (de_op op_sub o_sub (de_var (pv 1)) de_int) (nomark _)) (dss_one (ds_ret de_str)) dss_nil) (dss_cons (ds_for PassesOwn.never rfl (di_rng2 rfl T.b_range (da_cons de_int (da_cons (de_var (pv 1)) da_nil))) (dg_name (i := 5) sc__law_why.nd rfl (by first | exact Or.inl rfl | exact Or.inr rfl)) (dss_cons (ds_set (i := 6) sc__law_why.nd rfl (by first | exact Or.inl rfl | exact Or.inr rfl) (de_ix ix_seq o_ix (de_var (pv 3)) (de_op op_sub o_sub (de_var (pv 5)) de_int) (fun _ _ => rfl))) (dss_cons (ds_if (PW.pt (dw_or (dt_op (op_neD hr.units) c_ne.op (de_bi call_len a_len (by rfl) T.b_len (by decide +kernel) (da_cons (de_var (pv 6)) da_nil)) (de_var (pv 1)) (nomark _)) (dw_or1 (dt_notN (de_ix ix_seq o_ix (de_var (pv 6)) (de_var (pv 5)) (fun _ _ => rfl)))))) (dss_one (ds_ret de_str)) dss_nil) (dss_one (ds_for PassesOwn.never rfl (di_rng1 rfl T.b_range (da_cons (de_var (pv 1)) da_nil)) (dg_name (i := 4) sc__law_why.nd rfl (by first | exact Or.inl rfl | exact Or.inr rfl)) (dss_one (ds_if (PW.pt (dw_and (dt_notN (de_ix ix_seq o_ix (de_var (pv 6)) (de_var (pv 4)) (fun _ _ => rfl))) (dw_and1 (PW.pt (dw_or (dt_not (dt_chain op_le op_lt (c_int _) (c_int _).op de_int (de_ix ix_seq o_ix (de_var (pv 6)) (de_var (pv 4)) (fun _ _ => rfl)) (de_var (pv 1)))) (dw_or1 (dt_op (op_eqD hr.units) c_eq.op (de_ix ix_seq o_ix (de_var (pv 6)) (de_var (pv 4)) (fun _ _ => rfl)) (de_var (pv 4)) (nomark _)))))))) (dss_one (ds_ret de_str)) dss_nil))))))) (dss_one (ds_ret de_non)))))))
theorem cal__law_spoilt (T : Tx K mg) (F : FnF K mg "_law_spoilt" s__law_spoilt ["_law_row", "_law_web_here"]) (C__law_taken : Cal P w K mg base "_law_taken" 1 ["_law_row", "_law_many"] false d__law_taken) : Cal P w K mg base "_law_spoilt" 2 ["_law_row", "_law_web_here"] false d__law_spoilt := by
  exact cal_of F sc__law_spoilt fun f cdv A outer s H E hr => (dss_cons (ds_asg (de_var (pv 1)) (dg_tup rfl (dgs_cons (dg_name (i := 2) sc__law_spoilt.nd rfl (by first | exact Or.inl rfl | exact Or.inr rfl)) (dgs_cons (dg_name (i := 3) sc__law_spoilt.nd rfl (by first | exact Or.inl rfl | exact Or.inr rfl)) (dgs_cons (dg_name (i := 4) sc__law_spoilt.nd rfl (by first | exact Or.inl rfl | exact Or.inr rfl)) dgs_nil))))) (dss_cons (ds_set (i := 5) sc__law_spoilt.nd rfl (by first | exact Or.inl rfl | exact Or.inr rfl) (C__law_taken.de (hr.mono (by decide)) (by rfl) (da_cons (de_var (pv 0)) (da_cons de_int da_nil)))) (dss_cons (ds_set (i := 6) sc__law_spoilt.nd rfl (by first | exact Or.inl rfl | exact Or.inr rfl) (C__law_taken.de (hr.mono (by decide)) (by rfl) (da_cons (de_var (pv 0)) (da_cons de_int da_nil)))) (dss_cons (ds_if (dt_op (op_eqD hr.units) c_eq.op (de_var (pv 5)) de_int (nomark _)) (dss_one (ds_ret (de_tup (da_cons (de_ix ix_seq o_ix (de_of (do_lst (da_cons de_int (da_cons de_int (da_cons de_int (da_cons (de_op op_sub o_sub de_int de_int) (da_cons (de_op op_add4 o_add de_int (de_var (pv 6))) (da_cons (de_var (pv 2)) da_nil)))))))) (C__law_taken.de (hr.mono (by decide)) (by rfl) (da_cons (de_var (pv 0)) (da_cons de_int da_nil))) (fun _ _ => rfl)) (da_cons (de_var (pv 3)) (da_cons (de_var (pv 4)) da_nil)))))) dss_nil) (dss_cons (ds_if (dt_op op_lt (c_int _).op (de_var (pv 5)) de_int (nomark _)) (dss_cons (ds_set (i := 7) sc__law_spoilt.nd rfl (by first | exact Or.inl rfl | exact Or.inr rfl) (de_of (do_lst (da_cons (de_tup (da_cons de_int da_nil)) (da_cons (de_tup (da_cons (de_var (pv 2)) da_nil)) (da_cons (de_tup (da_cons (de_op op_sub o_sub de_int de_int) da_nil)) (da_cons (de_tup (da_cons de_int (da_cons de_int da_nil))) (da_cons (de_tup (da_cons (de_op op_sub o_sub (de_var (pv 2)) de_int) (da_cons de_int da_nil))) (da_cons (de_tup (da_cons (de_op op_add4 o_add (de_var (pv 2)) (de_var (pv 6))) da_nil)) (da_cons (de_tRg2 rfl (by rfl) T.b_tuple (by rfl) T.b_range de_int (de_var (pv 2))) (da_cons (de_op op_add4 o_add (de_var (pv 3)) (de_var (pv 3))) da_nil))))))))))) (dss_one (ds_ret (de_tup (da_cons (de_var (pv 2)) (da_cons (de_ix ix_seq o_ix (de_var (pv 7)) (C__law_taken.de (hr.mono (by decide)) (by rfl) (da_cons (de_var (pv 0)) (da_cons de_int da_nil))) (fun _ _ => rfl)) (da_cons (de_var (pv 4)) da_nil))))))) dss_nil) (dss_cons (ds_if (dt_op (op_eqD hr.units) c_eq.op (de_var (pv 5)) de_int (nomark _)) (dss_one (ds_ret (de_tup (da_cons (de_var (pv 2)) (da_cons (de_var (pv 3)) (da_cons (de_ix ix_seq o_ix (de_of (do_lst (da_cons (de_sl (de_var (pv 4)) (dp_some de_int) dp_none) (da_cons (de_op op_add4 o_add (de_var (pv 4)) (de_sl (de_var (pv 4)) dp_none (dp_some de_int))) (da_cons (de_tup da_nil) da_nil))))) (C__law_taken.de (hr.mono (by decide)) (by rfl) (da_cons (de_var (pv 0)) (da_cons de_int da_nil))) (fun _ _ => rfl)) da_nil)))))) dss_nil) (dss_cons (ds_set (i := 8) sc__law_spoilt.nd rfl (by first | exact Or.inl rfl | exact Or.inr rfl) (C__law_taken.de (hr.mono (by decide)) (by rfl) (da_cons (de_var (pv 0)) (da_cons (de_bi (call_max2 rfl) a_max2 (by rfl) T.b_max (by decide +kernel) (da_cons de_int (da_cons (de_bi call_len a_len (by rfl) T.b_len (by decide +kernel) (da_cons (de_var (pv 4)) da_nil)) da_nil))) da_nil)))) (dss_cons (ds_set (i := 9) sc__law_spoilt.nd rfl (by first | exact Or.inl rfl | exact Or.inr rfl) (de_ix ix_seq o_ix (de_op op_add4 o_add (de_var (pv 4)) (de_tup (da_cons (de_tup da_nil) da_nil))) (de_var (pv 8)) (fun _ _ => rfl))) (dss_cons (ds_set (i := 10) sc__law_spoilt.nd rfl (by first | exact Or.inl rfl | exact Or.inr rfl) (C__law_taken.de (hr.mono (by decide)) (by rfl) (da_cons (de_var (pv 0)) (da_cons (de_bi (call_max2 rfl) a_max2 (by rfl) T.b_max (by decide +kernel) (da_cons de_int (da_cons (de_bi call_len a_len (by rfl) T.b_len (by decide +kernel) (da_cons (de_var (pv 9)) da_nil)) da_nil))) da_nil)))) (dss_cons (ds_set (i := 11) sc__law_spoilt.nd rfl (by first | exact Or.inl rfl | exact Or.inr rfl) (de_ix ix_seq o_ix (de_of (do_lst (da_cons (de_var (pv 10)) (da_cons (de_var (pv 2)) (da_cons (de_op op_sub o_sub de_int de_int) (da_cons (de_op op_add4 o_add (de_var (pv 2)) (de_var (pv 6))) (da_cons de_int (da_cons de_non da_nil)))))))) (C__law_taken.de (hr.mono (by decide)) (by rfl) (da_cons (de_var (pv 0)) (da_cons de_int da_nil))) (fun _ _ => rfl))) (dss_cons (ds_set (i := 7) sc__law_spoilt.nd rfl (by first | exact Or.inl rfl | exact Or.inr rfl) (de_of (do_lst (da_cons (de_op op_add4 o_add (de_op op_add4 o_add (de_sl (de_var (pv 9)) dp_none (dp_some (de_var (pv 10)))) (de_tup (da_cons (de_var (pv 11)) da_nil))) (de_sl (de_var (pv 9)) (dp_some (de_op op_add4 o_add (de_var (pv 10)) de_int)) dp_none)) (da_cons (de_sl (de_var (pv 9)) (dp_some de_int) dp_none) (da_cons (de_op op_add4 o_add (de_var (pv 9)) (de_tup (da_cons de_non da_nil))) da_nil)))))) (dss_cons (ds_set (i := 9) sc__law_spoilt.nd rfl (by first | exact Or.inl rfl | exact Or.inr rfl) (de_ix ix_seq o_ix (de_var (pv 7)) (de_ix ix_seq o_ix (de_of (do_lst (da_cons de_int (da_cons de_int (da_cons de_int (da_cons de_int (da_cons de_int da_nil))))))) (de_op op_add4 o_add (de_op op_sub o_sub (de_var (pv 5)) de_int) (C__law_taken.de (hr.mono (by decide)) (by rfl) (da_cons (de_var (pv 0)) (da_cons de_int da_nil)))) (fun _ _ => rfl)) (fun _ _ => rfl))) (dss_one (ds_ret (de_tup (da_cons (de_var (pv 2)) (da_cons (de_var (pv 3)) (da_cons (de_op op_add4 o_add (de_op op_add4 o_add (de_sl (de_var (pv 4)) dp_none (dp_some (de_var (pv 8)))) (de_tup (da_cons (de_var (pv 9)) da_nil))) (de_sl (de_var (pv 4)) (dp_some (de_op op_add4 o_add (de_var (pv 8)) de_int)) dp_none)) da_nil))))))))))))))))))
theorem cal__law_works {c P' : Addr} (T : Tx K mg) (F : FnC K mg "_law_works" s__law_works worksN c) (L : LamT K mg base "_law_works" c P') : CalZ P w K mg base "_law_works" 1 worksN (spWorks K qW worksN (worksL 0 :: worksLs)) := by
  exact works_cal (j := 2) F sc__law_works (by decide +kernel) (by decide) (by decide) (by decide) (by decide +kernel) fun f A outer s H E hr =>
    (pr_cons (ps_set (i := 2) sc__law_works.nd rfl (by first | exact Or.inl rfl | exact Or.inr rfl) (pe_lst (pa_cons (pe_lamT L.tb rfl L.mem L.uni rfl (show ∀ y ∈ (worksL 0).scope.names, y.2 = .free → (defScope s__law_works).names.lookup y.1 = some NameKind.cell ∨ (defScope s__law_works).names.lookup y.1 = some NameKind.free by decide +kernel)) pa_nil)))
    (pr_cons (ps_expr (pe_bm PySem.F.plainAttrs_list PySem.F.slot_list_append PySem.F.type_list_append mt_append (pv 2) (pa_cons (pe_lamT L.tb rfl L.mem L.uni rfl (show ∀ y ∈ (worksL 1).scope.names, y.2 = .free → (defScope s__law_works).names.lookup y.1 = some NameKind.cell ∨ (defScope s__law_works).names.lookup y.1 = some NameKind.free by decide +kernel)) pa_nil)))
    (pr_cons (ps_expr (pe_bm PySem.F.plainAttrs_list PySem.F.slot_list_append PySem.F.type_list_append mt_append (pv 2) (pa_cons (pe_lamT L.tb rfl L.mem L.uni rfl (show ∀ y ∈ (worksL 2).scope.names, y.2 = .free → (defScope s__law_works).names.lookup y.1 = some NameKind.cell ∨ (defScope s__law_works).names.lookup y.1 = some NameKind.free by decide +kernel)) pa_nil)))
    (pr_cons (ps_expr (pe_bm PySem.F.plainAttrs_list PySem.F.slot_list_append PySem.F.type_list_append mt_append (pv 2) (pa_cons (pe_lamT L.tb rfl L.mem L.uni rfl (show ∀ y ∈ (worksL 3).scope.names, y.2 = .free → (defScope s__law_works).names.lookup y.1 = some NameKind.cell ∨ (defScope s__law_works).names.lookup y.1 = some NameKind.free by decide +kernel)) pa_nil)))
    (pr_cons (ps_expr (pe_bm PySem.F.plainAttrs_list PySem.F.slot_list_append PySem.F.type_list_append mt_append (pv 2) (pa_cons (pe_lamT L.tb rfl L.mem L.uni rfl (show ∀ y ∈ (worksL 4).scope.names, y.2 = .free → (defScope s__law_works).names.lookup y.1 = some NameKind.cell ∨ (defScope s__law_works).names.lookup y.1 = some NameKind.free by decide +kernel)) pa_nil)))
    (pr_cons (ps_expr (pe_bm PySem.F.plainAttrs_list PySem.F.slot_list_append PySem.F.type_list_append mt_append (pv 2) (pa_cons (pe_lamT L.tb rfl L.mem L.uni rfl (show ∀ y ∈ (worksL 5).scope.names, y.2 = .free → (defScope s__law_works).names.lookup y.1 = some NameKind.cell ∨ (defScope s__law_works).names.lookup y.1 = some NameKind.free by decide +kernel)) pa_nil)))
    (pr_cons (ps_expr (pe_bm PySem.F.plainAttrs_list PySem.F.slot_list_append PySem.F.type_list_append mt_append (pv 2) (pa_cons (pe_lamT L.tb rfl L.mem L.uni rfl (show ∀ y ∈ (worksL 6).scope.names, y.2 = .free → (defScope s__law_works).names.lookup y.1 = some NameKind.cell ∨ (defScope s__law_works).names.lookup y.1 = some NameKind.free by decide +kernel)) pa_nil)))
    (pr_cons (ps_expr (pe_bm PySem.F.plainAttrs_list PySem.F.slot_list_append PySem.F.type_list_append mt_append (pv 2) (pa_cons (pe_lamT L.tb rfl L.mem L.uni rfl (show ∀ y ∈ (worksL 7).scope.names, y.2 = .free → (defScope s__law_works).names.lookup y.1 = some NameKind.cell ∨ (defScope s__law_works).names.lookup y.1 = some NameKind.free by decide +kernel)) pa_nil)))
    (pr_cons (ps_expr (pe_bm PySem.F.plainAttrs_list PySem.F.slot_list_append PySem.F.type_list_append mt_append (pv 2) (pa_cons (pe_lamT L.tb rfl L.mem L.uni rfl (show ∀ y ∈ (worksL 8).scope.names, y.2 = .free → (defScope s__law_works).names.lookup y.1 = some NameKind.cell ∨ (defScope s__law_works).names.lookup y.1 = some NameKind.free by decide +kernel)) pa_nil)))
    (pr_cons (ps_expr (pe_bm PySem.F.plainAttrs_list PySem.F.slot_list_append PySem.F.type_list_append mt_append (pv 2) (pa_cons (pe_lamT L.tb rfl L.mem L.uni rfl (show ∀ y ∈ (worksL 9).scope.names, y.2 = .free → (defScope s__law_works).names.lookup y.1 = some NameKind.cell ∨ (defScope s__law_works).names.lookup y.1 = some NameKind.free by decide +kernel)) pa_nil)))
    (pr_cons (ps_expr (pe_bm PySem.F.plainAttrs_list PySem.F.slot_list_append PySem.F.type_list_append mt_append (pv 2) (pa_cons (pe_lamT L.tb rfl L.mem L.uni rfl (show ∀ y ∈ (worksL 10).scope.names, y.2 = .free → (defScope s__law_works).names.lookup y.1 = some NameKind.cell ∨ (defScope s__law_works).names.lookup y.1 = some NameKind.free by decide +kernel)) pa_nil)))
    (pr_ret (pv 2)))))))))))))
def pureLaw : Prop := ∀ ns : List Int, ns.length ≤ 63 → ∃ l' rw', b_law (.val (.scr ns) :: .val .row :: List.replicate 5 .no) (some ⟨ns, 0, 0⟩) = .ok (.ret (.bl true), l', rw')
theorem ok_law {f : Addr} {fd : FuncData} (T : Tx K mg) (F : FunD K "law" "law" (defArgs s_law) (defBody s_law) (defScope s_law) [] [] f fd) (C__law_web : Cal P w K mg base "_law_web" 3 ["_law_row", "_law_least", "_law_most"] false d__law_web) (C__law_spoilt : Cal P w K mg base "_law_spoilt" 2 ["_law_row", "_law_web_here"] false d__law_spoilt) (C__law_taken : Cal P w K mg base "_law_taken" 1 ["_law_row", "_law_many"] false d__law_taken) (C__law_why : Cal P w K mg base "_law_why" 1 ["_law_web_here"] false d__law_why) (C_need_web : CalX P w K mg base "need_web" 3 ["web"] d_need_web) (C__law_works : CalZ P w K mg base "_law_works" 1 worksN (spWorks K qW worksN (worksL 0 :: worksLs))) (C__law_word : CalZ P w K mg base "_law_word" 7 ["_law_work"] (spWord K qW worksN (worksL 0 :: worksLs) worksG)) (C__law_alike : Cal P w K mg base "_law_alike" 6 ["_law_found", "_law_due"] false d__law_alike) (hp : pureLaw) : FnOk P w K mg base CXF 8 f fd ["_law_script"] (spL K) := by
  refine law_ok F sc_law (s0 := _) (rest := _) (den := b_law) rfl (by decide) (fun cdv A outer s H E => ?_) (fun cdv A outer s H E hr => ?_) hp
  · exact ps_set (i := 1) sc_law.nd rfl (by first | exact Or.inl rfl | exact Or.inr rfl) (pe_lst (pa_cons (pv 0) (pa_cons pe_int (pa_cons pe_int pa_nil))))
  · exact (dss_cons (ds_for PassesOwn.never rfl (di_rng1 rfl T.b_range (da_cons de_int da_nil)) (dg_name (i := 2) sc_law.nd rfl (by first | exact Or.inl rfl | exact Or.inr rfl)) (dss_cons (ds_set (i := 3) sc_law.nd rfl (by first | exact Or.inl rfl | exact Or.inr rfl) (C__law_web.de (hr.mono (by decide)) (by rfl) (da_cons (de_var (pv 1)) (da_cons de_int (da_cons de_int da_nil))))) (dss_cons (ds_set (i := 4) sc_law.nd rfl (by first | exact Or.inl rfl | exact Or.inr rfl) (C__law_spoilt.de (hr.mono (by decide)) (by rfl) (da_cons (de_var (pv 1)) (da_cons (de_var (pv 3)) da_nil)))) (dss_cons (ds_if (dt_op (op_eqD hr.units) c_eq.op (C__law_taken.de (hr.mono (by decide)) (by rfl) (da_cons (de_var (pv 1)) (da_cons de_int da_nil))) de_int (nomark _)) (dss_one (ds_set (i := 4) sc_law.nd rfl (by first | exact Or.inl rfl | exact Or.inr rfl) (C__law_spoilt.de (hr.mono (by decide)) (by rfl) (da_cons (de_var (pv 1)) (da_cons (de_var (pv 4)) da_nil))))) dss_nil) (dss_cons (ds_set (i := 5) sc_law.nd rfl (by first | exact Or.inl rfl | exact Or.inr rfl) (C__law_why.de (hr.mono (by decide)) (by rfl) (da_cons (de_var (pv 4)) da_nil))) (dss_cons (ds_if (dt_notN (de_weak (C_need_web.de LamX.takes0 (hr.mono (by decide)) (by rfl) (da_cons (de_var (pv 3)) da_nil)))) (dss_one (ds_ret de_bl)) dss_nil) (dss_one (ds_if (dt_isN (de_var (pv 5))) (dss_one (ds_if (dt_notN (de_weak (C_need_web.de LamX.takes0 (hr.mono (by decide)) (by rfl) (da_cons (de_var (pv 4)) da_nil)))) (dss_one (ds_ret de_bl)) dss_nil)) (dss_one (ds_if (dt_works rfl rfl (by decide) rfl sc_law.nd hr.units C__law_works C__law_word C__law_alike (hr.mono (by decide)) (hr.mono (by decide)) (hr.mono (by decide)) (by rfl) (pv 4) (pv 3) (blkOk_by (N := ["_law_script", "_law_row", "_law_turn", "_law_good", "_law_web_here", "_law_why_here", "_law_work"]) (sc := defScope s_law) (by decide +kernel)) (fun _ _ _ _ _ => pg_name sc_law.nd rfl (by first | exact Or.inl rfl | exact Or.inr rfl)) (fun _ _ _ _ _ => by rfl) (fun _ _ _ _ _ => by rfl) (fun _ _ _ _ _ => pv 6) (fun _ _ _ _ _ => pv 5) (by decide) (by decide) (by decide)) (dss_one (ds_ret de_bl)) dss_nil)))))))))) (dss_one (ds_ret de_bl)))
end
end K01
end
section
namespace K01
open PySem PySem.Spec L2 HD HC
open PyProof.Rows hiding St
def dd : List He.DefD := [⟨("is_many", none), "is_many", "is_many", defArgs s_is_many, defBody s_is_many, defScope s_is_many, [], []⟩,
  ⟨("is_way", none), "is_way", "is_way", defArgs s_is_way, defBody s_is_way, defScope s_is_way, [], []⟩,
  ⟨("need_web", none), "need_web", "need_web", defArgs s_need_web, defBody s_need_web, defScope s_need_web, [], []⟩,
  ⟨("parting", none), "parting", "parting", defArgs s_parting, defBody s_parting, defScope s_parting, [], []⟩,
  ⟨("alike", none), "alike", "alike", defArgs s_alike, defBody s_alike, defScope s_alike, [], []⟩,
  ⟨("asked", none), "asked", "asked", defArgs s_asked, defBody s_asked, defScope s_asked, [], []⟩,
  ⟨("answers", none), "answers", "answers", defArgs s_answers, defBody s_answers, defScope s_answers, [], []⟩,
  ⟨("walk", none), "walk", "walk", defArgs s_walk, defBody s_walk, defScope s_walk, [], []⟩,
  ⟨("known", none), "known", "known", defArgs s_known, defBody s_known, defScope s_known, [], []⟩,
  ⟨("twin", none), "twin", "twin", defArgs s_twin, defBody s_twin, defScope s_twin, [], []⟩,
  ⟨("quiet", none), "quiet", "quiet", defArgs s_quiet, defBody s_quiet, defScope s_quiet, [], []⟩,
  ⟨("gives_log", none), "gives_log", "gives_log", defArgs s_gives_log, defBody s_gives_log, defScope s_gives_log, [], []⟩,
  ⟨("written", none), "written", "written", defArgs s_written, defBody s_written, defScope s_written, [], []⟩,
  ⟨("_law_taken", none), "_law_taken", "_law_taken", defArgs s__law_taken, defBody s__law_taken, defScope s__law_taken, [], []⟩,
  ⟨("_law_alike", none), "_law_alike", "_law_alike", defArgs s__law_alike, defBody s__law_alike, defScope s__law_alike, [], []⟩,
  ⟨("_law_way", none), "_law_way", "_law_way", defArgs s__law_way, defBody s__law_way, defScope s__law_way, [], []⟩,
  ⟨("_law_web", none), "_law_web", "_law_web", defArgs s__law_web, defBody s__law_web, defScope s__law_web, [], []⟩,
  ⟨("_law_word", none), "_law_word", "_law_word", defArgs s__law_word, defBody s__law_word, defScope s__law_word, [], []⟩,
  ⟨("_law_why", none), "_law_why", "_law_why", defArgs s__law_why, defBody s__law_why, defScope s__law_why, [], []⟩,
  ⟨("_law_spoilt", none), "_law_spoilt", "_law_spoilt", defArgs s__law_spoilt, defBody s__law_spoilt, defScope s__law_spoilt, [], []⟩,
  ⟨("_law_works", none), "_law_works", "_law_works", defArgs s__law_works, defBody s__law_works, defScope s__law_works, [], []⟩,
  ⟨("law", none), "law", "law", defArgs s_law, defBody s_law, defScope s_law, [], []⟩,
  ⟨("BadWeb", some "__init__"), "__init__", "BadWeb.__init__", defArgs s_init, defBody s_init, defScope s_init, [], []⟩]
def ff : List He.Fa := [.glo "is_many", .glo "is_way", .glo "need_web", .glo "parting", .glo "alike", .glo "asked", .glo "answers", .glo "walk", .glo "known", .glo "twin", .glo "quiet", .glo "gives_log", .glo "written", .glo "_law_taken", .glo "_law_alike", .glo "_law_way", .glo "_law_web", .glo "_law_word", .glo "_law_why", .glo "_law_spoilt", .glo "_law_works", .glo "law", .free "ValueError", .free "bool", .free "int", .free "isinstance", .free "len", .free "list", .free "max", .free "range", .free "set", .free "sorted", .free "str", .free "tuple", .int "LEAST_MANY" 2, .int "MOST_MANY" 6, .glo "BadText", .glo "BadAsk", .glo "BadLog", .glo "BadWeb", .glo "HopError"]
abbrev Rr : PySem.W.OpenRow := PySem.W.OpenLaw.row PySem.Challenge.rw_hopmark_k01_webs_that_are_none
def tf : List He.Defn := [("all_silent", none), ("law", none), ("_law_works", none)]
def ex (K : PySem.W.Frag) : Bool := (lamsB tf K) && (lamB "_law_works" K) && (excWB K)
abbrev hk : PySem.W.Hook := HD.hookY 4 ff dd [] tf ex
def ob (s : PySem.W.SharedT) : He.AlX := HD.obsY 4 ff dd [] tf ex (HandSHeadRun.getT s)
theorem ob_eq (s : PySem.W.SharedT) : ob s = hk.obs s.abs := HD.obsY_eq (HandSHeadRun.getT_eq s)
theorem run (w : World) : HandSHeadRun.RunEq Rr (PySem.W.view Rr.prog [62]) hk ob 4000 ((["HopError", "BadWeb", "BadAsk", "BadLog", "BadText", "LEAST_MANY", "MOST_MANY", "MOST_HOPS", "is_many", "is_way", "need_web", "need_ask", "need_post", "NOTHING", "steps_to", "posts_on", "answer_of", "answers_of", "asked", "answers", "walk", "all_ways", "with_end", "all_silent", "seen_in", "gives", "giving", "MOST_LOG", "is_answer", "need_log"] : List Str) ++ (["gives_log", "dues_of", "all_worlds", "with_way", "other_next", "twin_in", "twin_of", "twin", "known", "quiet", "parting_of", "parting", "alike", "sign_of", "written", "_law_taken", "_law_alike", "_law_way", "_law_web", "_law_word", "_law_why", "_law_spoilt", "_law_works"] : List Str)) w := by
  intro os
  kernel_rfl
theorem ex_of {K : PySem.W.Frag} (h : ex K = true) : (lamsB tf K) = true ∧ (lamB "_law_works" K) = true ∧ (excWB K) = true := by
  unfold ex at h
  simpa [Bool.and_eq_true, and_assoc] using h
theorem facts (hp : pureLaw) {P : Program} {w : World} {K : PySem.W.Frag} {h : Heap} {mg : Str → Option Value} {f : Addr} (X : K.In h) (G : h.Ns mainGlobals mg) (hfa : mg ("law" : Str) = some (.ref f)) (cx : He.SaysX ff dd [] tf ex w h K) :
    ∃ fd : FuncData, (∀ (s : Shared) (v : Value), BindsTo s fd ⟨[v], []⟩ [("_law_script", v)]) ∧ ∀ base : Heap, K.In base → base.Ns mainGlobals mg → (∀ p ∈ tf.map (He.cT K), LamX.TabB base mg p.1 p.2) → FnOk P w K mg base CXF 8 f fd ["_law_script"] (spL K) := by
  have c := cx.t.d
  obtain ⟨cl, cl__law_works, cx_⟩ := ex_of cx.more
  have T : Tx K mg := ⟨He.free_ok X G (c.fact 22 (f := .free "ValueError") rfl), He.free_ok X G (c.fact 23 (f := .free "bool") rfl), He.free_ok X G (c.fact 24 (f := .free "int") rfl), He.free_ok X G (c.fact 25 (f := .free "isinstance") rfl), He.free_ok X G (c.fact 26 (f := .free "len") rfl), He.free_ok X G (c.fact 27 (f := .free "list") rfl), He.free_ok X G (c.fact 28 (f := .free "max") rfl), He.free_ok X G (c.fact 29 (f := .free "range") rfl), He.free_ok X G (c.fact 30 (f := .free "set") rfl), He.free_ok X G (c.fact 31 (f := .free "sorted") rfl), He.free_ok X G (c.fact 32 (f := .free "str") rfl), He.free_ok X G (c.fact 33 (f := .free "tuple") rfl), He.int_ok X G (c.fact 34 (f := .int "LEAST_MANY" 2) rfl), He.int_ok X G (c.fact 35 (f := .int "MOST_MANY" 6) rfl)⟩
  have F_is_many : FnF K mg "is_many" s_is_many ["many"] := by
    obtain ⟨fd, F⟩ := c.def_ 0 (d := dd[0]'(by decide)) rfl
    exact ⟨_, fd, F, He.glo_ok X G (c.fact 0 (f := .glo "is_many") rfl), FunD.bindsN F fun _ _ _ _ _ _ us hl => match us, hl with | [_], _ => rfl⟩
  have F_is_way : FnF K mg "is_way" s_is_way ["many", "goal", "way"] := by
    obtain ⟨fd, F⟩ := c.def_ 1 (d := dd[1]'(by decide)) rfl
    exact ⟨_, fd, F, He.glo_ok X G (c.fact 1 (f := .glo "is_way") rfl), FunD.bindsN F fun _ _ _ _ _ _ us hl => match us, hl with | [_, _, _], _ => rfl⟩
  have F_need_web : FnF K mg "need_web" s_need_web ["web"] := by
    obtain ⟨fd, F⟩ := c.def_ 2 (d := dd[2]'(by decide)) rfl
    exact ⟨_, fd, F, He.glo_ok X G (c.fact 2 (f := .glo "need_web") rfl), FunD.bindsN F fun _ _ _ _ _ _ us hl => match us, hl with | [_], _ => rfl⟩
  have F_parting : FnF K mg "parting" s_parting ["web", "other"] := by
    obtain ⟨fd, F⟩ := c.def_ 3 (d := dd[3]'(by decide)) rfl
    exact ⟨_, fd, F, He.glo_ok X G (c.fact 3 (f := .glo "parting") rfl), FunD.bindsN F fun _ _ _ _ _ _ us hl => match us, hl with | [_, _], _ => rfl⟩
  have F_alike : FnF K mg "alike" s_alike ["web", "other"] := by
    obtain ⟨fd, F⟩ := c.def_ 4 (d := dd[4]'(by decide)) rfl
    exact ⟨_, fd, F, He.glo_ok X G (c.fact 4 (f := .glo "alike") rfl), FunD.bindsN F fun _ _ _ _ _ _ us hl => match us, hl with | [_, _], _ => rfl⟩
  have F_asked : FnF K mg "asked" s_asked ["web", "goal", "hops"] := by
    obtain ⟨fd, F⟩ := c.def_ 5 (d := dd[5]'(by decide)) rfl
    exact ⟨_, fd, F, He.glo_ok X G (c.fact 5 (f := .glo "asked") rfl), FunD.bindsN F fun _ _ _ _ _ _ us hl => match us, hl with | [_, _, _], _ => rfl⟩
  have F_answers : FnF K mg "answers" s_answers ["web", "goal"] := by
    obtain ⟨fd, F⟩ := c.def_ 6 (d := dd[6]'(by decide)) rfl
    exact ⟨_, fd, F, He.glo_ok X G (c.fact 6 (f := .glo "answers") rfl), FunD.bindsN F fun _ _ _ _ _ _ us hl => match us, hl with | [_, _], _ => rfl⟩
  have F_walk : FnF K mg "walk" s_walk ["web", "goal"] := by
    obtain ⟨fd, F⟩ := c.def_ 7 (d := dd[7]'(by decide)) rfl
    exact ⟨_, fd, F, He.glo_ok X G (c.fact 7 (f := .glo "walk") rfl), FunD.bindsN F fun _ _ _ _ _ _ us hl => match us, hl with | [_, _], _ => rfl⟩
  have F_known : FnF K mg "known" s_known ["web"] := by
    obtain ⟨fd, F⟩ := c.def_ 8 (d := dd[8]'(by decide)) rfl
    exact ⟨_, fd, F, He.glo_ok X G (c.fact 8 (f := .glo "known") rfl), FunD.bindsN F fun _ _ _ _ _ _ us hl => match us, hl with | [_], _ => rfl⟩
  have F_twin : FnF K mg "twin" s_twin ["web", "post", "goal"] := by
    obtain ⟨fd, F⟩ := c.def_ 9 (d := dd[9]'(by decide)) rfl
    exact ⟨_, fd, F, He.glo_ok X G (c.fact 9 (f := .glo "twin") rfl), FunD.bindsN F fun _ _ _ _ _ _ us hl => match us, hl with | [_, _, _], _ => rfl⟩
  have F_quiet : FnF K mg "quiet" s_quiet ["web"] := by
    obtain ⟨fd, F⟩ := c.def_ 10 (d := dd[10]'(by decide)) rfl
    exact ⟨_, fd, F, He.glo_ok X G (c.fact 10 (f := .glo "quiet") rfl), FunD.bindsN F fun _ _ _ _ _ _ us hl => match us, hl with | [_], _ => rfl⟩
  have F_gives_log : FnF K mg "gives_log" s_gives_log ["web", "log"] := by
    obtain ⟨fd, F⟩ := c.def_ 11 (d := dd[11]'(by decide)) rfl
    exact ⟨_, fd, F, He.glo_ok X G (c.fact 11 (f := .glo "gives_log") rfl), FunD.bindsN F fun _ _ _ _ _ _ us hl => match us, hl with | [_, _], _ => rfl⟩
  have F_written : FnF K mg "written" s_written ["web"] := by
    obtain ⟨fd, F⟩ := c.def_ 12 (d := dd[12]'(by decide)) rfl
    exact ⟨_, fd, F, He.glo_ok X G (c.fact 12 (f := .glo "written") rfl), FunD.bindsN F fun _ _ _ _ _ _ us hl => match us, hl with | [_], _ => rfl⟩
  have F__law_taken : FnF K mg "_law_taken" s__law_taken ["_law_row", "_law_many"] := by
    obtain ⟨fd, F⟩ := c.def_ 13 (d := dd[13]'(by decide)) rfl
    exact ⟨_, fd, F, He.glo_ok X G (c.fact 13 (f := .glo "_law_taken") rfl), FunD.bindsN F fun _ _ _ _ _ _ us hl => match us, hl with | [_, _], _ => rfl⟩
  have F__law_alike : FnF K mg "_law_alike" s__law_alike ["_law_found", "_law_due"] := by
    obtain ⟨fd, F⟩ := c.def_ 14 (d := dd[14]'(by decide)) rfl
    exact ⟨_, fd, F, He.glo_ok X G (c.fact 14 (f := .glo "_law_alike") rfl), FunD.bindsN F fun _ _ _ _ _ _ us hl => match us, hl with | [_, _], _ => rfl⟩
  have F__law_way : FnF K mg "_law_way" s__law_way ["_law_row", "_law_many", "_law_goal", "_law_kind"] := by
    obtain ⟨fd, F⟩ := c.def_ 15 (d := dd[15]'(by decide)) rfl
    exact ⟨_, fd, F, He.glo_ok X G (c.fact 15 (f := .glo "_law_way") rfl), FunD.bindsN F fun _ _ _ _ _ _ us hl => match us, hl with | [_, _, _, _], _ => rfl⟩
  have F__law_web : FnF K mg "_law_web" s__law_web ["_law_row", "_law_least", "_law_most"] := by
    obtain ⟨fd, F⟩ := c.def_ 16 (d := dd[16]'(by decide)) rfl
    exact ⟨_, fd, F, He.glo_ok X G (c.fact 16 (f := .glo "_law_web") rfl), FunD.bindsN F fun _ _ _ _ _ _ us hl => match us, hl with | [_, _, _], _ => rfl⟩
  have F__law_word : FnF K mg "_law_word" s__law_word ["_law_work"] := by
    obtain ⟨fd, F⟩ := c.def_ 17 (d := dd[17]'(by decide)) rfl
    exact ⟨_, fd, F, He.glo_ok X G (c.fact 17 (f := .glo "_law_word") rfl), FunD.bindsN F fun _ _ _ _ _ _ us hl => match us, hl with | [_], _ => rfl⟩
  have F__law_why : FnF K mg "_law_why" s__law_why ["_law_web_here"] := by
    obtain ⟨fd, F⟩ := c.def_ 18 (d := dd[18]'(by decide)) rfl
    exact ⟨_, fd, F, He.glo_ok X G (c.fact 18 (f := .glo "_law_why") rfl), FunD.bindsN F fun _ _ _ _ _ _ us hl => match us, hl with | [_], _ => rfl⟩
  have F__law_spoilt : FnF K mg "_law_spoilt" s__law_spoilt ["_law_row", "_law_web_here"] := by
    obtain ⟨fd, F⟩ := c.def_ 19 (d := dd[19]'(by decide)) rfl
    exact ⟨_, fd, F, He.glo_ok X G (c.fact 19 (f := .glo "_law_spoilt") rfl), FunD.bindsN F fun _ _ _ _ _ _ us hl => match us, hl with | [_, _], _ => rfl⟩
  have F__law_works : FnC K mg "_law_works" s__law_works ["_law_web_here", "_law_good"] (He.cT K ("_law_works", none)).1 := by
    obtain ⟨fd, F⟩ := c.def_ 20 (d := dd[20]'(by decide)) rfl
    exact FnC.of ⟨fd, F, He.glo_ok X G (c.fact 20 (f := .glo "_law_works") rfl), FunD.bindsN F fun _ _ _ _ _ _ us hl => match us, hl with | [_, _], _ => rfl⟩
  obtain ⟨rz_, bc_, EX⟩ := excWB_ok cx_ (He.glo_ok X G (c.fact 39 (f := .glo "BadWeb") rfl)) (He.glo_ok X G (c.fact 37 (f := .glo "BadAsk") rfl)) (He.glo_ok X G (c.fact 38 (f := .glo "BadLog") rfl)) (He.glo_ok X G (c.fact 36 (f := .glo "BadText") rfl)) (He.glo_ok X G (c.fact 40 (f := .glo "HopError") rfl))
  obtain ⟨fdi, Fi⟩ := c.def_ 22 (d := dd[22]'(by decide)) rfl
  obtain ⟨R1, R2, R3⟩ := rzB_ok rz_ EX.gw
  obtain ⟨fd, F⟩ := c.def_ 21 (d := dd[21]'(by decide)) rfl
  have e := hfa.symm.trans (He.glo_ok X G (c.fact 21 (f := .glo "law") rfl))
  cases e
  refine ⟨fd, fun s v => FunD.bindsA (ps := ["_law_script"]) F (fun _ _ _ _ _ _ us hl => match us, hl with | [_], _ => rfl) s [v] rfl, fun base _ _ TB => ?_⟩
  have RZ : RzW P w K mg base := ⟨_, _, fdi, R1, R2, R3, ok_init Fi EX.gh bc_, FunD.bindsN Fi fun _ _ _ _ _ _ us hl => match us, hl with | [_, _], _ => rfl⟩
  have C_is_many : Cal P w K mg base "is_many" 1 ["many"] false d_is_many := cal_is_many T F_is_many
  have C_is_way : Cal P w K mg base "is_way" 1 ["many", "goal", "way"] false d_is_way := cal_is_way T F_is_way
  have C_need_web : CalX P w K mg base "need_web" 3 ["web"] d_need_web := cal_need_web T F_need_web RZ C_is_many C_is_way
  have C_parting : CalX P w K mg base "parting" 4 ["web", "other"] d_parting := cal_parting T F_parting RZ C_need_web
  have C_alike : CalX P w K mg base "alike" 5 ["web", "other"] d_alike := cal_alike T F_alike RZ C_parting
  have C_asked : CalX P w K mg base "asked" 4 ["web", "goal", "hops"] d_asked := cal_asked T F_asked RZ C_need_web
  have C_answers : CalX P w K mg base "answers" 4 ["web", "goal"] d_answers := cal_answers T F_answers RZ C_need_web
  have C_walk : CalX P w K mg base "walk" 4 ["web", "goal"] d_walk := cal_walk T F_walk RZ C_need_web
  have C_known : CalX P w K mg base "known" 4 ["web"] d_known := cal_known T F_known RZ C_need_web
  have C_twin : CalX P w K mg base "twin" 4 ["web", "post", "goal"] d_twin := cal_twin T F_twin RZ C_need_web
  have C_quiet : CalX P w K mg base "quiet" 4 ["web"] d_quiet := cal_quiet T F_quiet RZ C_need_web
  have C_gives_log : CalX P w K mg base "gives_log" 4 ["web", "log"] d_gives_log := cal_gives_log T F_gives_log RZ C_need_web
  have C_written : CalX P w K mg base "written" 4 ["web"] d_written := cal_written T F_written RZ C_need_web
  have C__law_taken : Cal P w K mg base "_law_taken" 1 ["_law_row", "_law_many"] false d__law_taken := cal__law_taken T F__law_taken
  have C__law_alike : Cal P w K mg base "_law_alike" 6 ["_law_found", "_law_due"] false d__law_alike := cal__law_alike T F__law_alike
  have C__law_way : Cal P w K mg base "_law_way" 2 ["_law_row", "_law_many", "_law_goal", "_law_kind"] false d__law_way := cal__law_way T F__law_way C__law_taken
  have C__law_web : Cal P w K mg base "_law_web" 3 ["_law_row", "_law_least", "_law_most"] false d__law_web := cal__law_web T F__law_web C__law_taken C__law_way
  have C__law_word : CalZ P w K mg base "_law_word" 7 ["_law_work"] (spWord K qW worksN (worksL 0 :: worksLs) worksG) := cal__law_word T F__law_word EX C_need_web C_asked C_answers C_walk C_alike C_parting C_known C_twin C_quiet C_gives_log C_written
  have C__law_why : Cal P w K mg base "_law_why" 1 ["_law_web_here"] false d__law_why := cal__law_why T F__law_why
  have C__law_spoilt : Cal P w K mg base "_law_spoilt" 2 ["_law_row", "_law_web_here"] false d__law_spoilt := cal__law_spoilt T F__law_spoilt C__law_taken
  have C__law_works : CalZ P w K mg base "_law_works" 1 worksN (spWorks K qW worksN (worksL 0 :: worksLs)) := cal__law_works T F__law_works (lamT_of cl__law_works (TB _ (List.mem_map.mpr ⟨("_law_works", none), by decide, rfl⟩)))
  exact ok_law T F C__law_web C__law_spoilt C__law_taken C__law_why C_need_web C__law_works C__law_word C__law_alike hp
end K01
end
section
/-! Plain lemmas: how readings reckon. -/
namespace HD
open PySem PySem.Spec L2

section
variable {α β : Type}
@[simp] theorem bind_ok (a : α) (f : α → R β) : (R.ok a).bind f = f a := rfl
@[simp] theorem bind_exc (x : Exn) (w : Rw) (f : α → R β) : (R.exc x w).bind f = .exc x w := rfl
@[simp] theorem bind_stuck (f : α → R β) : (R.stuck : R α).bind f = .stuck := rfl
@[simp] theorem ofO_some (a : α) (w : Rw) : ofO (some a) w = .ok (a, w) := rfl
@[simp] theorem ofO_none (w : Rw) : ofO (none : Option α) w = .stuck := rfl
@[simp] theorem noX_ok (a : α) : noX (R.ok a) = .ok a := rfl
end
def seqK (g : SM) (p : Fl × Dl × Rw) : R (Fl × Dl × Rw) := match p.1 with
  | .next => g p.2.1 p.2.2
  | x => .ok (x, p.2)
@[simp] theorem seqK_next (g : SM) (l : Dl) (rw : Rw) : seqK g (.next, l, rw) = g l rw := rfl
@[simp] theorem seqK_ret (g : SM) (d : D) (l : Dl) (rw : Rw) : seqK g (.ret d, l, rw) = .ok (.ret d, l, rw) := rfl
@[simp] theorem seqK_brk (g : SM) (l : Dl) (rw : Rw) : seqK g (.brk, l, rw) = .ok (.brk, l, rw) := rfl
@[simp] theorem seqK_cont (g : SM) (l : Dl) (rw : Rw) : seqK g (.cont, l, rw) = .ok (.cont, l, rw) := rfl
def getV (x : Option Sl) (rw : Rw) : R (D × Rw) := match x with
  | some (.val d) => .ok (d, rw)
  | _ => .stuck
@[simp] theorem getV_val (d : D) (rw : Rw) : getV (some (.val d)) rw = .ok (d, rw) := rfl
def toBK (p : D × Rw) : R (Bool × Rw) := match p.1 with
  | .bl b => .ok (b, p.2)
  | _ => .stuck
@[simp] theorem toBK_bl (b : Bool) (rw : Rw) : toBK (.bl b, rw) = .ok (b, rw) := rfl
section
variable (l : Dl) (rw : Rw)
@[simp] theorem eBin_ap (f : D → D → Option D) (g1 g2 : EM D) : eBin f g1 g2 l rw = (g1 l rw).bind fun p => (g2 l p.2).bind fun q => ofO (f p.1 q.1) q.2 := rfl
@[simp] theorem eUn_ap (f : D → Option D) (g : EM D) : eUn f g l rw = (g l rw).bind fun p => ofO (f p.1) p.2 := rfl
@[simp] theorem aNil_ap : aNil l rw = .ok ([], rw) := rfl
@[simp] theorem aCons_ap (g : EM D) (r : EM (List D)) : aCons g r l rw = (g l rw).bind fun p => (r l p.2).bind fun q => .ok (p.1 :: q.1, q.2) := rfl
@[simp] theorem eArgs_ap (f : List D → Option D) (g : EM (List D)) : eArgs f g l rw = (g l rw).bind fun p => ofO (f p.1) p.2 := rfl
@[simp] theorem eK_ap (d : D) : eK d l rw = .ok (d, rw) := rfl
@[simp] theorem eV_ap (i : Nat) : eV i l rw = getV l[i]? rw := rfl
@[simp] theorem toB_ap (g : EM D) : toB g l rw = (g l rw).bind toBK := rfl
@[simp] theorem eIf_ap (c : EM Bool) (a b : EM D) : eIf c a b l rw = (c l rw).bind fun p => if p.1 = true then a l p.2 else b l p.2 := rfl
@[simp] theorem tAnd_ap (a b : EM Bool) : tAnd' a b l rw = (a l rw).bind fun p => if p.1 = true then b l p.2 else .ok (false, p.2) := rfl
@[simp] theorem tOr_ap (a b : EM Bool) : tOr' a b l rw = (a l rw).bind fun p => if p.1 = true then .ok (true, p.2) else b l p.2 := rfl
@[simp] theorem tNot_ap (a : EM Bool) : tNot' a l rw = (a l rw).bind fun p => .ok (!p.1, p.2) := rfl
@[simp] theorem vAnd_ap (a b : EM D) : vAnd a b l rw = (a l rw).bind fun p => match p.1 with
  | .bl true => b l p.2
  | .bl false => .ok (.bl false, p.2)
  | _ => .stuck := rfl
@[simp] theorem vOr_ap (a b : EM D) : vOr a b l rw = (a l rw).bind fun p => match p.1 with
  | .bl true => .ok (.bl true, p.2)
  | .bl false => b l p.2
  | _ => .stuck := rfl
@[simp] theorem vNot_ap (a : EM D) : vNot a l rw = (a l rw).bind fun p => match p.1 with
  | .bl b => .ok (.bl (!b), p.2)
  | _ => .stuck := rfl
@[simp] theorem eChain_ap (f f' : D → D → Option D) (ga gb gc : EM D) : eChain f f' ga gb gc l rw = (ga l rw).bind fun p => (gb l p.2).bind fun q => match f p.1 q.1 with
  | some (.bl true) => (gc l q.2).bind fun t => ofO (f' q.1 t.1) t.2
  | some (.bl false) => .ok (.bl false, q.2)
  | _ => .stuck := rfl
@[simp] theorem eTup_ap (g : EM (List D)) : eTup g l rw = (g l rw).bind fun p => ofO (if p.1.length ≤ sizeLine then some (.tup p.1) else none) p.2 := rfl
@[simp] theorem eLst_ap (g : EM (List D)) : eLst g l rw = (g l rw).bind fun p => ofO (if p.1.length ≤ sizeLine then some (.lst p.1) else none) p.2 := rfl
@[simp] theorem aItems_ap (g : EM D) : aItems g l rw = (g l rw).bind fun p => ofO (itemsOf p.1) p.2 := rfl
@[simp] theorem aRng_ap (f : List D → Option (List D)) (g : EM (List D)) : aRng f g l rw = (g l rw).bind fun p => ofO (f p.1) p.2 := rfl
@[simp] theorem eCall_ap (F : FD) (g : EM (List D)) : eCall F g l rw = (g l rw).bind fun p => F p.1 p.2 := rfl
@[simp] theorem cYes_ap : cYes l rw = .ok (true, rw) := rfl
@[simp] theorem eComp_ap (g : EM (List D)) (tg : D → Dl → Option Dl) (c : EM Bool) (e : EM D) (vs : List Nat) : eComp g tg c e vs l rw = (g l rw).bind fun p => if p.1.length ≤ sizeLine then (compL tg c e (wipeD l vs) p.1 p.2).bind fun q => .ok (.lst q.1, q.2) else .stuck := rfl
@[simp] theorem eBor_ap (i : Nat) (g : EM D) : eBor i g l rw = match l[i]? with
  | some (.own (.lst ds)) => (noX (g (l.set i (.val (.lst ds))) rw)).bind fun p => if isSc p.1 = true then .ok p else .stuck
  | _ => .stuck := rfl
@[simp] theorem tBor_ap (i : Nat) (g : EM Bool) : tBor i g l rw = match l[i]? with
  | some (.own (.lst ds)) => noX (g (l.set i (.val (.lst ds))) rw)
  | _ => .stuck := rfl
@[simp] theorem eTupO_ap (i : Nat) : eTupO i l rw = match l[i]? with
  | some (.own (.lst ds)) => .ok (.tup ds, rw)
  | _ => .stuck := rfl
@[simp] theorem eCatO_ap (i : Nat) (g : EM D) : eCatO i g l rw = match l[i]? with
  | some (.own (.lst ds)) => (g l rw).bind fun p => (match p.1 with
    | .lst es => if ds.length + es.length ≤ sizeLine then .ok (.lst (ds ++ es), p.2) else .stuck
    | _ => .stuck)
  | _ => .stuck := rfl
@[simp] theorem eMeth_ap (T : String) (f : D → List D → Option D) (g : EM D) (a : EM (List D)) : eMeth T f g a l rw = (g l rw).bind fun p => if tyV' T p.1 = true then (a l p.2).bind fun q => ofO (f p.1 q.1) q.2 else .stuck := rfl
@[simp] theorem sNext_ap : sNext l rw = .ok (.next, l, rw) := rfl
@[simp] theorem sBrk_ap : sBrk l rw = .ok (.brk, l, rw) := rfl
@[simp] theorem sCont_ap : sCont l rw = .ok (.cont, l, rw) := rfl
@[simp] theorem sStuck_ap : sStuck l rw = .stuck := rfl
@[simp] theorem sSeq_ap (f g : SM) : sSeq f g l rw = (f l rw).bind (seqK g) := rfl
@[simp] theorem sSet_ap (i : Nat) (g : EM D) : sSet i g l rw = (g l rw).bind fun p => .ok (.next, l.set i (.val p.1), p.2) := rfl
@[simp] theorem sSetO_ap (i : Nat) (g : EM D) : sSetO i g l rw = (g l rw).bind fun p => .ok (.next, l.set i (.own p.1), p.2) := rfl
@[simp] theorem sExpr_ap (g : EM D) : sExpr g l rw = (g l rw).bind fun p => .ok (.next, l, p.2) := rfl
@[simp] theorem sRet_ap (g : EM D) : sRet g l rw = (g l rw).bind fun p => .ok (.ret p.1, l, p.2) := rfl
@[simp] theorem sRetN_ap : sRetN l rw = .ok (.ret .non, l, rw) := rfl
@[simp] theorem sRetV_ap (i : Nat) : sRetV i l rw = match l[i]? with
  | some (.own d) => .ok (.ret d, l, rw)
  | _ => .stuck := rfl
@[simp] theorem sIf_ap (c : EM Bool) (a b : SM) : sIf c a b l rw = (c l rw).bind fun p => if p.1 = true then a l p.2 else b l p.2 := rfl
@[simp] theorem sFrz_ap (i : Nat) : sFrz i l rw = match l[i]? with
  | some (.own d) => .ok (.next, l.set i (.val d), rw)
  | _ => .stuck := rfl
@[simp] theorem sFor_ap (g : EM (List D)) (tg : D → Dl → Option Dl) (body : SM) : sFor g tg body l rw = (g l rw).bind fun p => sLoop tg body p.1 l p.2 := rfl
@[simp] theorem sAsg_ap (g : EM D) (tg : D → Dl → Option Dl) : sAsg g tg l rw = (g l rw).bind fun p => match tg p.1 l with
  | some l' => .ok (.next, l', p.2)
  | none => .stuck := rfl
@[simp] theorem sMut_ap (T : String) (i : Nat) (f : D → List D → Option D) (g : EM (List D)) : sMut T i f g l rw = match l[i]? with
  | some (.own d) => if tyD d T = true then (g l rw).bind fun p => (match f d p.1 with
    | some d' => .ok (.next, l.set i (.own d'), p.2)
    | none => .stuck) else .stuck
  | _ => .stuck := rfl
@[simp] theorem gN_ap (i : Nat) (d : D) : gN i d l = some (l.set i (.val d)) := rfl
@[simp] theorem gsNil_ap : gsNil [] l = some l := rfl
@[simp] theorem gsCons_ap (t : D → Dl → Option Dl) (u : List D → Dl → Option Dl) (d : D) (r : List D) : gsCons t u (d :: r) l = (t d l).bind fun l1 => u r l1 := rfl
@[simp] theorem gT_ap (n : Nat) (u : List D → Dl → Option Dl) (ds : List D) : gT n u (.tup ds) l = if ds.length = n then u ds l else none := rfl
end
@[simp] theorem rng1_ap (j : Int) : rng1 [.int j] = if -1000000 ≤ j ∧ j ≤ 1000000 then some (rangeD 0 j.toNat) else none := by rw [rng1]
@[simp] theorem rng2_ap (i j : Int) : rng2 [.int i, .int j] = if (-1000000 ≤ i ∧ i ≤ 1000000) ∧ (-1000000 ≤ j ∧ j ≤ 1000000) then some (rangeD i (j - i).toNat) else none := by rw [rng2]
@[simp] theorem fAdd_int (i j : Int) : fAdd (.int i) (.int j) = some (.int (i + j)) := rfl
@[simp] theorem fSub_int (i j : Int) : fSub (.int i) (.int j) = some (.int (i - j)) := rfl
@[simp] theorem fMul_int (i j : Int) : fMul (.int i) (.int j) = if -1000000000000 ≤ j ∧ j ≤ 1000000000000 then some (.int (i * j)) else none := by rw [fMul]
@[simp] theorem fMod_int (i j : Int) : fMod (.int i) (.int j) = if 0 < j then some (.int (i % j)) else none := by rw [fMod]
@[simp] theorem fFdiv_int (i j : Int) : fFdiv (.int i) (.int j) = if 0 < j ∧ j < 1073741824 then some (.int (i / j)) else none := by rw [fFdiv]
@[simp] theorem fNeg_int (i : Int) : fNeg (.int i) = some (.int (-i)) := rfl
@[simp] theorem fCmp_int (p : Int → Int → Bool) (i j : Int) : fCmp p (.int i) (.int j) = some (.bl (p i j)) := rfl
@[simp] theorem isNon_non : isNonD .non = some (.bl true) := rfl
@[simp] theorem isNon_int (i : Int) : isNonD (.int i) = some (.bl false) := rfl
@[simp] theorem isNon_tup (i : List D) : isNonD (.tup i) = some (.bl false) := rfl
@[simp] theorem isNon_lst (i : List D) : isNonD (.lst i) = some (.bl false) := rfl
@[simp] theorem isNon_str (i : Str) : isNonD (.str i) = some (.bl false) := rfl
@[simp] theorem isNon_bl (i : Bool) : isNonD (.bl i) = some (.bl false) := rfl
@[simp] theorem notNon_non : notNonD .non = some (.bl false) := rfl
@[simp] theorem notNon_int (i : Int) : notNonD (.int i) = some (.bl true) := rfl
@[simp] theorem notNon_tup (i : List D) : notNonD (.tup i) = some (.bl true) := rfl
@[simp] theorem notNon_lst (i : List D) : notNonD (.lst i) = some (.bl true) := rfl
@[simp] theorem fLen_lst (xs : List D) : fLen [.lst xs] = some (.int xs.length) := rfl
@[simp] theorem fLen_tup (xs : List D) : fLen [.tup xs] = some (.int xs.length) := rfl
@[simp] theorem fLen_scr (xs : List Int) : fLen [.scr xs] = some (.int xs.length) := rfl
@[simp] theorem fList_lst (xs : List D) : fList [.lst xs] = some (.lst xs) := rfl
@[simp] theorem fList_tup (xs : List D) : fList [.tup xs] = some (.lst xs) := rfl
@[simp] theorem fTuple_lst (xs : List D) : fTuple [.lst xs] = some (.tup xs) := rfl
@[simp] theorem fTuple_tup (xs : List D) : fTuple [.tup xs] = some (.tup xs) := rfl
@[simp] theorem fIx_lst (xs : List D) (i : Int) : fIx (.lst xs) (.int i) = L2.atI xs i := rfl
@[simp] theorem fIx_tup (xs : List D) (i : Int) : fIx (.tup xs) (.int i) = L2.atI xs i := rfl
@[simp] theorem fIx_scr (xs : List Int) (i : Int) : fIx (.scr xs) (.int i) = (L2.atI xs i).map .int := rfl
@[simp] theorem itemsOf_lst (xs : List D) : itemsOf (.lst xs) = some xs := rfl
@[simp] theorem itemsOf_tup (xs : List D) : itemsOf (.tup xs) = some xs := rfl
@[simp] theorem fAppend_lst (ds : List D) (d : D) : fAppend (.lst ds) [d] = if ds.length < sizeLine then some (.lst (ds ++ [d])) else none := rfl
@[simp] theorem tyD_lst (ds : List D) : tyD (.lst ds) "list" = true := rfl
@[simp] theorem tyV_lst (ds : List D) : tyV' "list" (.lst ds) = true := rfl
@[simp] theorem isSc_int (i : Int) : isSc (.int i) = true := rfl
@[simp] theorem isSc_non : isSc .non = true := rfl
@[simp] theorem isSc_bl (i : Bool) : isSc (.bl i) = true := rfl
@[simp] theorem isSc_str (i : Str) : isSc (.str i) = true := rfl
theorem sl_big {n : Nat} (h : n ≤ 100000) : n ≤ sizeLine := by rw [sizeLine_eq]; omega
theorem sl_lt {n : Nat} (h : n ≤ 100000) : n < sizeLine := by rw [sizeLine_eq]; omega
@[simp] theorem rangeD_len (lo : Int) (n : Nat) : (rangeD lo n).length = n := rangeD_length
theorem rangeD_get {lo : Int} {n i : Nat} (h : i < n) : (rangeD lo n)[i]? = some (.int (lo + (i : Int))) := by
  unfold rangeD
  rw [List.getElem?_map, List.getElem?_range h]
  rfl
theorem rangeD_mem {lo : Int} {n : Nat} {d : D} (h : d ∈ rangeD lo n) : ∃ i : Nat, i < n ∧ d = .int (lo + (i : Int)) := by
  unfold rangeD at h
  obtain ⟨i, h1, h2⟩ := List.mem_map.mp h
  exact ⟨i, List.mem_range.mp h1, h2.symm⟩
theorem atI_ok {α : Type} {xs : List α} {i : Int} {j : Nat} {x : α} (h : i = (j : Int)) (e : xs[j]? = some x) : L2.atI xs i = some x := by rw [h]; exact atI_nat e
@[simp] theorem atI_zero {α : Type} (x : α) (xs : List α) : L2.atI (x :: xs) 0 = some x := atI_nat (j := 0) rfl
@[simp] theorem atI_one {α : Type} (x y : α) (xs : List α) : L2.atI (x :: y :: xs) 1 = some y := atI_nat (j := 1) rfl
@[simp] theorem atI_two {α : Type} (x y z : α) (xs : List α) : L2.atI (x :: y :: z :: xs) 2 = some z := atI_nat (j := 2) rfl

/-! ### equal things -/
@[simp] theorem eqD_int (i j : Int) : eqD (.int i) (.int j) = decide (i = j) := by unfold eqD; simp only [toPy, PyData.eqv]; exact Bool.beq_eq_decide_eq i j
@[simp] theorem eqD_str (i j : Str) : eqD (.str i) (.str j) = decide (i = j) := by unfold eqD; simp only [toPy, PyData.eqv]; exact Bool.beq_eq_decide_eq i j
@[simp] theorem eqD_bl (i j : Bool) : eqD (.bl i) (.bl j) = decide (i = j) := by unfold eqD; simp only [toPy, PyData.eqv]; exact Bool.beq_eq_decide_eq i j
@[simp] theorem eqD_non : eqD .non .non = true := by unfold eqD; simp only [toPy, PyData.eqv]
@[simp] theorem eqD_non_int (i : Int) : eqD .non (.int i) = false := by unfold eqD; simp only [toPy, PyData.eqv]
@[simp] theorem eqD_int_non (i : Int) : eqD (.int i) .non = false := by unfold eqD; simp only [toPy, PyData.eqv]
@[simp] theorem eqD_str_int (x : Str) (i : Int) : eqD (.str x) (.int i) = false := by unfold eqD; simp only [toPy, PyData.eqv]
@[simp] theorem eqD_int_str (x : Str) (i : Int) : eqD (.int i) (.str x) = false := by unfold eqD; simp only [toPy, PyData.eqv]
@[simp] theorem eqD_str_non (x : Str) : eqD (.str x) .non = false := by unfold eqD; simp only [toPy, PyData.eqv]
@[simp] theorem eqD_non_str (x : Str) : eqD .non (.str x) = false := by unfold eqD; simp only [toPy, PyData.eqv]
def eqDs : List D → List D → Bool
  | [], [] => true
  | x :: xs, y :: ys => eqD x y && eqDs xs ys
  | _, _ => false
theorem eqDs_py : ∀ xs ys : List D, PyData.eqvAll (toPys xs) (toPys ys) = eqDs xs ys
  | [], [] => by simp only [toPys, PyData.eqvAll, eqDs]
  | [], _ :: _ => by simp only [toPys, PyData.eqvAll, eqDs]
  | _ :: _, [] => by simp only [toPys, PyData.eqvAll, eqDs]
  | x :: xs, y :: ys => by simp only [toPys, PyData.eqvAll, eqDs, eqDs_py xs ys]; rfl
@[simp] theorem eqD_tup (xs ys : List D) : eqD (.tup xs) (.tup ys) = eqDs xs ys := by unfold eqD; simp only [toPy, PyData.eqv, eqDs_py]
@[simp] theorem eqD_lst (xs ys : List D) : eqD (.lst xs) (.lst ys) = eqDs xs ys := by unfold eqD; simp only [toPy, PyData.eqv, eqDs_py]
@[simp] theorem eqDs_nil : eqDs [] [] = true := by simp only [eqDs]
@[simp] theorem eqDs_cons (x y : D) (xs ys : List D) : eqDs (x :: xs) (y :: ys) = (eqD x y && eqDs xs ys) := by simp only [eqDs]
@[simp] theorem eqDs_cn (x : D) (xs : List D) : eqDs (x :: xs) [] = false := by simp only [eqDs]
@[simp] theorem eqDs_nc (x : D) (xs : List D) : eqDs [] (x :: xs) = false := by simp only [eqDs]
@[simp] theorem fit_int (n : Nat) (i : Int) : fit n (.int i) = true := by cases n <;> rfl
@[simp] theorem fit_bl (n : Nat) (i : Bool) : fit n (.bl i) = true := by cases n <;> rfl
@[simp] theorem fit_non (n : Nat) : fit n .non = true := by cases n <;> rfl
@[simp] theorem fit_str (n : Nat) (x : Str) : fit n (.str x) = PyData.strOk x := by cases n <;> rfl
@[simp] theorem fit_tup (n : Nat) (xs : List D) : fit (n + 1) (.tup xs) = xs.all (fit n) := rfl
@[simp] theorem fit_lst (n : Nat) (xs : List D) : fit (n + 1) (.lst xs) = xs.all (fit n) := rfl
theorem fit_mono : ∀ (n m : Nat) (d : D), n ≤ m → fit n d = true → fit m d = true := by
  intro n
  induction n with
  | zero =>
    intro m d _ h
    cases d <;> first | (simp at h ⊢; done) | (simp at h ⊢; exact h) | (simp [fit] at h)
  | succ n ih =>
    intro m d hm h
    obtain ⟨k, rfl⟩ : ∃ k, m = k + 1 := ⟨m - 1, by omega⟩
    cases d with
    | tup xs => simp only [fit_tup, List.all_eq_true] at h ⊢; exact fun x hx => ih k x (by omega) (h x hx)
    | lst xs => simp only [fit_lst, List.all_eq_true] at h ⊢; exact fun x hx => ih k x (by omega) (h x hx)
    | _ => first | (simp at h ⊢; done) | (simp at h ⊢; exact h) | (simp [fit] at h)
@[simp] theorem fEq_int (i j : Int) : fEq (.int i) (.int j) = some (.bl (decide (i = j))) := by unfold fEq; simp
@[simp] theorem fNe_int (i j : Int) : fNe (.int i) (.int j) = some (.bl (!decide (i = j))) := by unfold fNe; simp
@[simp] theorem fEq_bl (i j : Bool) : fEq (.bl i) (.bl j) = some (.bl (decide (i = j))) := by unfold fEq; simp
@[simp] theorem fNe_bl (i j : Bool) : fNe (.bl i) (.bl j) = some (.bl (!decide (i = j))) := by unfold fNe; simp
theorem eqD_refl : ∀ (n : Nat) (d : D), fit n d = true → eqD d d = true := by
  intro n
  induction n with
  | zero => intro d h; cases d <;> first | (simp; done) | (simp [fit] at h)
  | succ n ih =>
    intro d h
    have all : ∀ xs : List D, xs.all (fit n) = true → eqDs xs xs = true := by
      intro xs
      induction xs with
      | nil => intro _; rfl
      | cons x xs ihx => intro h; simp only [List.all_cons, Bool.and_eq_true] at h; simp [ih x h.1, ihx h.2]
    cases d with
    | tup xs => simp only [eqD_tup]; exact all xs h
    | lst xs => simp only [eqD_lst]; exact all xs h
    | _ => first | (simp; done) | (simp [fit] at h)
/-! ### comprehensions and loops -/
theorem compL_pure {tg : D → Dl → Option Dl} {c : EM Bool} {e : EM D} {lw : Dl} {rw : Rw} (b : D → Bool) (f : D → D) : ∀ ds : List D, (∀ d ∈ ds, ∃ l1, tg d lw = some l1 ∧ c l1 rw = .ok (b d, rw) ∧ (b d = true → e l1 rw = .ok (f d, rw))) → compL tg c e lw ds rw = .ok ((ds.filter b).map f, rw)
  | [], _ => rfl
  | d :: ds, h => by
    obtain ⟨l1, h1, h2, h3⟩ := h d (by simp)
    have ih := compL_pure b f ds fun x hx => h x (List.mem_cons_of_mem _ hx)
    unfold compL
    rw [h1]
    simp only [h2, noX_ok, bind_ok]
    cases hb : b d with
    | true => simp only [if_true, h3 hb, noX_ok, bind_ok, ih, List.filter_cons, hb, List.map_cons]
    | false => simp only [Bool.false_eq_true, if_false, ih, List.filter_cons, hb]
/-- a comprehension whose turns change the row -/
theorem compL_st {tg : D → Dl → Option Dl} {c : EM Bool} {e : EM D} {lw : Dl} (P : Rw → Prop) (Pd : Nat → D → Prop) : ∀ (ds : List D) (k : Nat) (rw : Rw), P rw →
    (∀ i d rw, ds[i]? = some d → P rw → ∃ l1, tg d lw = some l1 ∧ ∃ rw1 y rw2, c l1 rw = .ok (true, rw1) ∧ e l1 rw1 = .ok (y, rw2) ∧ P rw2 ∧ Pd (k + i) y) →
    ∃ ys rw', compL tg c e lw ds rw = .ok (ys, rw') ∧ P rw' ∧ ys.length = ds.length ∧ ∀ i y, ys[i]? = some y → Pd (k + i) y
  | [], k, rw, hP, _ => ⟨[], rw, rfl, hP, rfl, fun i y h => by simp at h⟩
  | d :: ds, k, rw, hP, h => by
    obtain ⟨l1, h1, rw1, y, rw2, h2, h3, h4, h5⟩ := h 0 d rw rfl hP
    obtain ⟨ys, rw', e1, e2, e3, e4⟩ := compL_st P Pd ds (k + 1) rw2 h4 fun i d' rw hd hP => by
      have := h (i + 1) d' rw (by simpa using hd) hP
      rwa [show k + (i + 1) = k + 1 + i by omega] at this
    refine ⟨y :: ys, rw', ?_, e2, by simp [e3], fun i z hz => ?_⟩
    · unfold compL
      rw [h1]
      simp only [h2, h3, noX_ok, bind_ok, if_true, e1]
    · cases i with
      | zero => simp at hz; subst hz; exact h5
      | succ i => have := e4 i z (by simpa using hz); rwa [show k + (i + 1) = k + 1 + i by omega]
/-- tests that change the row, the item itself kept -/
theorem compL_flt {tg : D → Dl → Option Dl} {c : EM Bool} {e : EM D} {lw : Dl} (P : Rw → Prop) : ∀ (ds : List D) (rw : Rw), P rw →
    (∀ d rw, d ∈ ds → P rw → ∃ l1, tg d lw = some l1 ∧ ∃ b rw1, c l1 rw = .ok (b, rw1) ∧ P rw1 ∧ e l1 rw1 = .ok (d, rw1)) →
    ∃ ys rw', compL tg c e lw ds rw = .ok (ys, rw') ∧ P rw' ∧ ys.Sublist ds
  | [], rw, hP, _ => ⟨[], rw, rfl, hP, .slnil⟩
  | d :: ds, rw, hP, h => by
    obtain ⟨l1, h1, b, rw1, h2, h3, h4⟩ := h d rw (by simp) hP
    obtain ⟨ys, rw', e1, e2, e3⟩ := compL_flt P ds rw1 h3 fun x rw hx hP => h x rw (List.mem_cons_of_mem _ hx) hP
    cases b with
    | true =>
      refine ⟨d :: ys, rw', ?_, e2, e3.cons_cons _⟩
      unfold compL
      rw [h1]
      simp only [h2, h4, noX_ok, bind_ok, if_true, e1]
    | false =>
      refine ⟨ys, rw', ?_, e2, e3.cons _⟩
      unfold compL
      rw [h1]
      simp only [h2, noX_ok, bind_ok, Bool.false_eq_true, if_false, e1]
/-- a for whose turns go on -/
theorem loop_all {tg : D → Dl → Option Dl} {body : SM} (P : Nat → Dl → Rw → Prop) : ∀ (ds : List D) (k : Nat) (l : Dl) (rw : Rw), P k l rw →
    (∀ i d l rw, ds[i]? = some d → P (k + i) l rw → ∃ l1, tg d l = some l1 ∧ ∃ l2 rw2, (body l1 rw = .ok (.next, l2, rw2) ∨ body l1 rw = .ok (.cont, l2, rw2)) ∧ P (k + i + 1) l2 rw2) →
    ∃ l' rw', sLoop tg body ds l rw = .ok (.next, l', rw') ∧ P (k + ds.length) l' rw'
  | [], k, l, rw, hP, _ => ⟨l, rw, rfl, hP⟩
  | d :: ds, k, l, rw, hP, h => by
    obtain ⟨l1, h1, l2, rw2, h2, h3⟩ := h 0 d l rw rfl hP
    obtain ⟨l', rw', e1, e2⟩ := loop_all P ds (k + 1) l2 rw2 h3 fun i d' l rw hd hP => by
      rw [show k + 1 + i = k + (i + 1) by omega] at hP ⊢
      exact h (i + 1) d' l rw (by simpa using hd) hP
    refine ⟨l', rw', ?_, by rw [List.length_cons, show k + (ds.length + 1) = k + 1 + ds.length by omega]; exact e2⟩
    unfold sLoop
    rw [h1]
    rcases h2 with h2 | h2 <;> simp only [h2, bind_ok] <;> exact e1
/-- a for that may hand back -/
theorem loop_post {tg : D → Dl → Option Dl} {body : SM} (P : Nat → Dl → Rw → Prop) (Q : R (Fl × Dl × Rw) → Prop) : ∀ (ds : List D) (k : Nat) (l : Dl) (rw : Rw), P k l rw →
    (∀ i d l rw, ds[i]? = some d → P (k + i) l rw → ∃ l1, tg d l = some l1 ∧ ((∃ l2 rw2, (body l1 rw = .ok (.next, l2, rw2) ∨ body l1 rw = .ok (.cont, l2, rw2)) ∧ P (k + i + 1) l2 rw2) ∨ ∃ z l2 rw2, body l1 rw = .ok (.ret z, l2, rw2) ∧ Q (.ok (.ret z, l2, rw2)))) →
    (∀ l rw, P (k + ds.length) l rw → Q (.ok (.next, l, rw))) → Q (sLoop tg body ds l rw)
  | [], k, l, rw, hP, _, hQ => hQ l rw hP
  | d :: ds, k, l, rw, hP, h, hQ => by
    obtain ⟨l1, h1, h2⟩ := h 0 d l rw rfl hP
    unfold sLoop
    rw [h1]
    rcases h2 with ⟨l2, rw2, h2, h3⟩ | ⟨z, l2, rw2, h2, h3⟩
    · have ih := loop_post P Q ds (k + 1) l2 rw2 h3 (fun i d' l rw hd hP => by
        rw [show k + 1 + i = k + (i + 1) by omega] at hP ⊢
        exact h (i + 1) d' l rw (by simpa using hd) hP) fun l rw hP => hQ l rw (by rw [List.length_cons, show k + (ds.length + 1) = k + 1 + ds.length by omega]; exact hP)
      rcases h2 with h2 | h2 <;> simp only [h2, bind_ok] <;> exact ih
    · simp only [h2, bind_ok]
      exact h3
end HD
end
section
/-! Plain lemmas: what a law draws. -/
namespace HC
open PySem PySem.Spec L2 HD

def RV (rw : Rw) : Prop := ∃ w, rw = some w ∧ 0 ≤ w.ix ∧ w.ns.length ≤ 63
def dFin (own : Bool) (p : Fl × Dl × Rw) : R (D × Rw) := match p.1 with
  | .ret d => .ok (d, p.2.2)
  | .next => if own = true then .stuck else .ok (.non, p.2.2)
  | _ => .stuck
@[simp] theorem dFin_ret (own : Bool) (d : D) (l : Dl) (rw : Rw) : dFin own (.ret d, l, rw) = .ok (d, rw) := rfl
@[simp] theorem dFin_next (l : Dl) (rw : Rw) : dFin false (.next, l, rw) = .ok (.non, rw) := rfl
theorem dDef0 (own : Bool) (m : Nat) (body : SM) (rw : Rw) : dDef own 0 m body [] rw = (body (List.replicate (m - 0) .no) rw).bind (dFin own) := rfl
theorem dDef1 (own : Bool) (m : Nat) (body : SM) (a0 : D) (rw : Rw) : dDef own 1 m body [a0] rw = (body (.val a0 :: List.replicate (m - 1) .no) rw).bind (dFin own) := rfl
theorem dDef2 (own : Bool) (m : Nat) (body : SM) (a0 a1 : D) (rw : Rw) : dDef own 2 m body [a0, a1] rw = (body (.val a0 :: .val a1 :: List.replicate (m - 2) .no) rw).bind (dFin own) := rfl
theorem dDef3 (own : Bool) (m : Nat) (body : SM) (a0 a1 a2 : D) (rw : Rw) : dDef own 3 m body [a0, a1, a2] rw = (body (.val a0 :: .val a1 :: .val a2 :: List.replicate (m - 3) .no) rw).bind (dFin own) := rfl
theorem dDef4 (own : Bool) (m : Nat) (body : SM) (a0 a1 a2 a3 : D) (rw : Rw) : dDef own 4 m body [a0, a1, a2, a3] rw = (body (.val a0 :: .val a1 :: .val a2 :: .val a3 :: List.replicate (m - 4) .no) rw).bind (dFin own) := rfl
theorem dDef5 (own : Bool) (m : Nat) (body : SM) (a0 a1 a2 a3 a4 : D) (rw : Rw) : dDef own 5 m body [a0, a1, a2, a3, a4] rw = (body (.val a0 :: .val a1 :: .val a2 :: .val a3 :: .val a4 :: List.replicate (m - 5) .no) rw).bind (dFin own) := rfl
@[simp] theorem eRow0 (i : Nat) (l : Dl) (w : RwS) (h : l[i]? = some (.val .row)) : eRow 0 i l (some w) = .ok (.scr w.ns, some w) := by unfold eRow; rw [h]; rfl
@[simp] theorem eRow1 (i : Nat) (l : Dl) (w : RwS) (h : l[i]? = some (.val .row)) : eRow 1 i l (some w) = .ok (.int w.ix, some w) := by unfold eRow; rw [h]; rfl
@[simp] theorem eRow2 (i : Nat) (l : Dl) (w : RwS) (h : l[i]? = some (.val .row)) : eRow 2 i l (some w) = .ok (.int w.mx, some w) := by unfold eRow; rw [h]; rfl
theorem sRow1 (i : Nat) (l : Dl) (rw : Rw) (g : EM D) (w : RwS) (z : Int) (h : l[i]? = some (.val .row)) (e : g l rw = .ok (.int z, some w)) : sRow 1 i g l rw = .ok (.next, l, some { w with ix := z }) := by unfold sRow; rw [e]; simp [h]
theorem sRow2 (i : Nat) (l : Dl) (rw : Rw) (g : EM D) (w : RwS) (z : Int) (h : l[i]? = some (.val .row)) (e : g l rw = .ok (.int z, some w)) : sRow 2 i g l rw = .ok (.next, l, some { w with mx := z }) := by unfold sRow; rw [e]; simp [h]

theorem taken_ok {rw : Rw} {n : Int} (hv : RV rw) (hn : 0 < n) : ∃ t rw', d__law_taken [.row, .int n] rw = .ok (.int t, rw') ∧ RV rw' ∧ 0 ≤ t ∧ t < n := by
  obtain ⟨w, rfl, h1, h2⟩ := hv
  unfold d__law_taken b__law_taken
  rw [dDef2]
  simp only [List.replicate, sSeq_ap]
  rw [sRow1 0 _ (some w) _ w (w.ix + 1) rfl (by simp [eRow1])]
  by_cases hc : ((w.ns.length : Nat) : Int) < w.ix + 1
  · refine ⟨(w.mx * 48271 + 11) % 2147483647 / 7 % n, some ⟨w.ns, w.ix + 1, (w.mx * 48271 + 11) % 2147483647⟩, ?_, ⟨_, rfl, by simp; omega, h2⟩, Int.emod_nonneg _ (by omega), Int.emod_lt_of_pos _ hn⟩
    simp [eRow1, eRow0, hc]
    rw [sRow2 0 _ _ _ ⟨w.ns, w.ix + 1, w.mx⟩ ((w.mx * 48271 + 11) % 2147483647) rfl (by simp [eRow2])]
    simp [eRow2, hn]
  · have hi : w.ix.toNat < w.ns.length := by omega
    refine ⟨w.ns[w.ix.toNat] % n, some ⟨w.ns, w.ix + 1, (w.mx * 48271 + w.ns[w.ix.toNat] + 11) % 2147483647⟩, ?_, ⟨_, rfl, by simp; omega, h2⟩, Int.emod_nonneg _ (by omega), Int.emod_lt_of_pos _ hn⟩
    have e : L2.atI w.ns w.ix = some w.ns[w.ix.toNat] := atI_ok (j := w.ix.toNat) (by omega) (List.getElem?_eq_getElem hi)
    simp [eRow1, eRow0, hc, e]
    rw [sRow2 0 _ _ _ ⟨w.ns, w.ix + 1, w.mx⟩ ((w.mx * 48271 + w.ns[w.ix.toNat] + 11) % 2147483647) rfl (by simp [eRow2])]
    simp [hn]

/-! ### a way -/
def dO : Option Nat → D
  | none => .non
  | some v => .int (v : Int)
@[simp] theorem dO_none : dO none = .non := rfl
@[simp] theorem dO_some (v : Nat) : dO (some v) = .int (v : Int) := rfl
def dWay (w : List (Option Nat)) : D := .tup (w.map dO)
structure WayOk (many goal : Nat) (w : List (Option Nat)) : Prop where
  len : w.length = many
  at_ : w[goal]? = some none
  go : ∀ (i v : Nat), w[i]? = some (some v) → v < many ∧ v ≠ i

def TR (g : EM Bool) (l : Dl) (rw : Rw) : Prop := ∃ b rw', g l rw = .ok (b, rw') ∧ RV rw'
theorem TR_and {a c : EM Bool} {l : Dl} {rw : Rw} (h : TR a l rw) (h2 : ∀ rw', RV rw' → TR c l rw') : TR (tAnd' a c) l rw := by
  obtain ⟨b, rw1, e, r⟩ := h
  cases b with
  | false => exact ⟨false, rw1, by simp [e], r⟩
  | true =>
    obtain ⟨b2, rw2, e2, r2⟩ := h2 rw1 r
    exact ⟨b2, rw2, by simp [e, e2], r2⟩
theorem TR_or {a c : EM Bool} {l : Dl} {rw : Rw} (h : TR a l rw) (h2 : ∀ rw', RV rw' → TR c l rw') : TR (tOr' a c) l rw := by
  obtain ⟨b, rw1, e, r⟩ := h
  cases b with
  | true => exact ⟨true, rw1, by simp [e], r⟩
  | false =>
    obtain ⟨b2, rw2, e2, r2⟩ := h2 rw1 r
    exact ⟨b2, rw2, by simp [e, e2], r2⟩
theorem TR_eqV {i : Nat} {l : Dl} {rw : Rw} {k c : Int} (hl : l[i]? = some (.val (.int k))) (r : RV rw) : TR (toB (eBin fEq (eV i) (eK (.int c)))) l rw := ⟨decide (k = c), rw, by simp [hl], r⟩
theorem TR_eqT {l : Dl} {rw : Rw} {n c : Int} (hl : l[0]? = some (.val .row)) (hn : 0 < n) (r : RV rw) : TR (toB (eBin fEq (eCall d__law_taken (aCons (eV 0) (aCons (eK (.int n)) aNil))) (eK (.int c)))) l rw := by
  obtain ⟨t, rw', e, r', _⟩ := taken_ok r hn
  exact ⟨decide (t = c), rw', by simp [hl, e], r'⟩
theorem TR_gtT {l : Dl} {rw : Rw} {n c : Int} (hl : l[0]? = some (.val .row)) (hn : 0 < n) (r : RV rw) : TR (toB (eBin fGt (eCall d__law_taken (aCons (eV 0) (aCons (eK (.int n)) aNil))) (eK (.int c)))) l rw := by
  obtain ⟨t, rw', e, r', _⟩ := taken_ok r hn
  exact ⟨decide (c < t), rw', by simp [hl, e], r'⟩
/-- numbers below n but one -/
def others (n i : Nat) : List D := (rangeD 0 n).filter fun d => !eqD d (.int (i : Int))
theorem others_get {n i j : Nat} {d : D} (h : (others n i)[j]? = some d) : ∃ v : Nat, d = .int (v : Int) ∧ v < n ∧ v ≠ i := by
  have hm := List.mem_of_getElem? h
  unfold others at hm
  obtain ⟨h1, h2⟩ := List.mem_filter.mp hm
  obtain ⟨v, hv, rfl⟩ := rangeD_mem h1
  refine ⟨v, by simp, hv, fun e => ?_⟩
  subst e
  simp at h2
theorem others_pos {n i : Nat} (hn : 2 ≤ n) : 0 < (others n i).length := by
  have key : ∀ v : Nat, v < n → v ≠ i → D.int (v : Int) ∈ others n i := fun v hv hne => by
    unfold others
    refine List.mem_filter.mpr ⟨?_, by simp; omega⟩
    unfold rangeD
    exact List.mem_map.mpr ⟨v, List.mem_range.mpr hv, by simp⟩
  by_cases h : i = 0
  · exact List.length_pos_of_mem (key 1 (by omega) (by omega))
  · exact List.length_pos_of_mem (key 0 (by omega) (by omega))
theorem others_le (n i : Nat) : (others n i).length ≤ n := by
  unfold others
  exact Nat.le_trans (List.length_filter_le _ _) (by simp)
def wayInv (many goal : Nat) (kind : Int) (k : Nat) (l : Dl) (rw : Rw) : Prop := RV rw ∧ ∃ (x5 x6 x7 : Sl) (w : List (Option Nat)), l = [.val .row, .val (.int (many : Int)), .val (.int (goal : Int)), .val (.int kind), .own (.lst (w.map dO)), x5, x6, x7] ∧ w.length = k ∧ (∀ (i v : Nat), w[i]? = some (some v) → v < many ∧ v ≠ i) ∧ (goal < k → w[goal]? = some none)
def wayBody : SM := (sSeq (sSet 7 (eComp (aRng rng1 (aCons (eV 1) aNil)) (gN 6) (toB (eBin fNe (eV 6) (eV 5))) (eV 6) [6])) (sSeq (sSet 6 (eBin fIx (eV 7) (eCall d__law_taken (aCons (eV 0) (aCons (eArgs fLen (aCons (eV 7) aNil)) aNil))))) (sSeq (sIf (tOr' (tAnd' (toB (eBin fEq (eV 3) (eK (.int 1)))) (toB (eBin fEq (eCall d__law_taken (aCons (eV 0) (aCons (eK (.int 3)) aNil))) (eK (.int 0))))) (tAnd' (toB (eBin fEq (eV 3) (eK (.int 0)))) (toB (eBin fEq (eCall d__law_taken (aCons (eV 0) (aCons (eK (.int 8)) aNil))) (eK (.int 7)))))) (sSet 6 (eK .non)) sNext) (sSeq (sIf (tAnd' (toB (eBin fEq (eV 3) (eK (.int 2)))) (toB (eBin fGt (eCall d__law_taken (aCons (eV 0) (aCons (eK (.int 3)) aNil))) (eK (.int 0))))) (sSet 6 (eBin fMod (eBin fAdd (eV 5) (eK (.int 1))) (eV 1))) sNext) (sMut "list" 4 fAppend (aCons (eIf (toB (eBin fEq (eV 5) (eV 2))) (eK .non) (eV 6)) aNil))))))
theorem way_turn {many goal : Nat} {kind : Int} (hm : 2 ≤ many ∧ many ≤ 6) (hg : goal < many) (i : Nat) (d : D) (l : Dl) (rw : Rw) (hd : (rangeD 0 many)[i]? = some d) (hP : wayInv many goal kind (0 + i) l rw) :
    ∃ l1, gN 5 d l = some l1 ∧ ∃ l2 rw2, (wayBody l1 rw = .ok (.next, l2, rw2) ∨ wayBody l1 rw = .ok (.cont, l2, rw2)) ∧ wayInv many goal kind (0 + i + 1) l2 rw2 := by
  unfold wayInv wayBody at *
  obtain ⟨r, x5, x6, x7, w, rfl, hl, h1, h2⟩ := hP
  have hi : i < many := by have := (List.getElem?_eq_some_iff.mp hd).1; simpa using this
  rw [rangeD_get hi] at hd
  cases hd
  refine ⟨_, rfl, ?_⟩
  simp only [Int.zero_add, Nat.zero_add] at hl h2 ⊢
  -- the others
  have hc : ∀ (x7 : Sl) (rw : Rw), compL (gN 6) (toB (eBin fNe (eV 6) (eV 5))) (eV 6) [.val .row, .val (.int (many : Int)), .val (.int (goal : Int)), .val (.int kind), .own (.lst (w.map dO)), .val (.int (i : Int)), .no, x7] (rangeD 0 many) rw = .ok (others many i, rw) := fun x7 rw => by
    rw [compL_pure (fun d => !eqD d (.int (i : Int))) id (rangeD 0 many) fun d hd => ?_]
    · simp [others]
    · obtain ⟨v, hv, rfl⟩ := rangeD_mem hd
      exact ⟨_, rfl, by simp, fun _ => by simp⟩
  have hlen : (others many i).length ≤ sizeLine := sl_big (Nat.le_trans (others_le _ _) (by omega))
  simp only [sSeq_ap, sSet_ap, eComp_ap, aRng_ap, aCons_ap, aNil_ap, eV_ap, List.set_cons_succ, List.set_cons_zero, List.getElem?_cons_succ, List.getElem?_cons_zero, getV_val, bind_ok, rng1_ap]
  rw [if_pos ⟨by omega, by omega⟩]
  simp only [ofO_some, bind_ok, Int.toNat_natCast, rangeD_len]
  rw [if_pos (sl_big (by omega))]
  simp only [wipeD, List.set_cons_succ, List.set_cons_zero]
  rw [hc x7]
  simp only [bind_ok, seqK_next, sSeq_ap, sSet_ap, eBin_ap, eV_ap, eCall_ap, aCons_ap, aNil_ap, eArgs_ap, List.getElem?_cons_succ, List.getElem?_cons_zero, getV_val, fLen_lst, ofO_some]
  obtain ⟨t, rwA, eA, rA, t0, t1⟩ := taken_ok r (n := ((others many i).length : Int)) (by have := others_pos (i := i) hm.1; omega)
  have ht : t.toNat < (others many i).length := by omega
  obtain ⟨v, ev, v1, v2⟩ := others_get (List.getElem?_eq_getElem ht)
  rw [eA]
  simp only [bind_ok, fIx_lst]
  rw [atI_ok (j := t.toNat) (by omega) (List.getElem?_eq_getElem ht), ev]
  simp only [ofO_some, bind_ok, seqK_next, List.set_cons_succ, List.set_cons_zero]
  -- lost?
  generalize hlv : ([.val .row, .val (.int (many : Int)), .val (.int (goal : Int)), .val (.int kind), .own (.lst (w.map dO)), .val (.int (i : Int)), .val (.int (v : Int)), .val (.lst (others many i))] : Dl) = lv
  obtain ⟨b, rwB, eB, rB⟩ : TR (tOr' (tAnd' (toB (eBin fEq (eV 3) (eK (.int 1)))) (toB (eBin fEq (eCall d__law_taken (aCons (eV 0) (aCons (eK (.int 3)) aNil))) (eK (.int 0))))) (tAnd' (toB (eBin fEq (eV 3) (eK (.int 0)))) (toB (eBin fEq (eCall d__law_taken (aCons (eV 0) (aCons (eK (.int 8)) aNil))) (eK (.int 7)))))) lv rwA := by
    subst hlv
    exact TR_or (TR_and (TR_eqV rfl rA) fun rw r => TR_eqT rfl (by decide) r) fun rw r => TR_and (TR_eqV rfl r) fun rw r => TR_eqT rfl (by decide) r
  simp only [sSeq_ap, sIf_ap, eB, bind_ok]
  obtain ⟨th, hth, eth⟩ : ∃ th : Option Nat, (∀ u, th = some u → u < many ∧ u ≠ i) ∧ (if b = true then sSet 6 (eK .non) lv rwB else sNext lv rwB) = .ok (.next, [.val .row, .val (.int (many : Int)), .val (.int (goal : Int)), .val (.int kind), .own (.lst (w.map dO)), .val (.int (i : Int)), .val (dO th), .val (.lst (others many i))], rwB) := by
    cases b with
    | true => exact ⟨none, (fun u h => by cases h), by subst hlv; simp⟩
    | false => exact ⟨some v, fun u h => (by cases h; exact ⟨v1, v2⟩), by subst hlv; simp⟩
  rw [eth]
  simp only [bind_ok, seqK_next, sSeq_ap, sIf_ap]
  generalize hlv2 : ([.val .row, .val (.int (many : Int)), .val (.int (goal : Int)), .val (.int kind), .own (.lst (w.map dO)), .val (.int (i : Int)), .val (dO th), .val (.lst (others many i))] : Dl) = lv2
  obtain ⟨b2, rwC, eC, rC⟩ : TR (tAnd' (toB (eBin fEq (eV 3) (eK (.int 2)))) (toB (eBin fGt (eCall d__law_taken (aCons (eV 0) (aCons (eK (.int 3)) aNil))) (eK (.int 0))))) lv2 rwB := by
    subst hlv2
    exact TR_and (TR_eqV rfl rB) fun rw r => TR_gtT rfl (by decide) r
  simp only [eC, bind_ok]
  obtain ⟨th2, hth2, eth2⟩ : ∃ th : Option Nat, (∀ u, th = some u → u < many ∧ u ≠ i) ∧ (if b2 = true then sSet 6 (eBin fMod (eBin fAdd (eV 5) (eK (.int 1))) (eV 1)) lv2 rwC else sNext lv2 rwC) = .ok (.next, [.val .row, .val (.int (many : Int)), .val (.int (goal : Int)), .val (.int kind), .own (.lst (w.map dO)), .val (.int (i : Int)), .val (dO th), .val (.lst (others many i))], rwC) := by
    cases b2 with
    | true =>
      refine ⟨some ((i + 1) % many), fun u h => ?_, ?_⟩
      · cases h
        refine ⟨Nat.mod_lt _ (by omega), fun e => ?_⟩
        by_cases hlt : i + 1 < many
        · rw [Nat.mod_eq_of_lt hlt] at e; omega
        · have e2 : i + 1 = many := by omega
          rw [e2, Nat.mod_self] at e; omega
      · subst hlv2
        have h0 : 0 < many := by omega
        simp [h0]
    | false => exact ⟨th, hth, by subst hlv2; simp⟩
  rw [eth2]
  have hw6 : w.length < sizeLine := sl_lt (by omega)
  have hw7 : (w.map dO).length < sizeLine := by rw [List.length_map]; exact hw6
  simp only [bind_ok, seqK_next, sMut_ap, List.getElem?_cons_succ, List.getElem?_cons_zero, tyD_lst, if_true, aCons_ap, aNil_ap, eIf_ap, toB_ap, eBin_ap, eV_ap, eK_ap, getV_val, fEq_int, ofO_some, toBK_bl]
  by_cases hgi : i = goal
  · refine ⟨_, rwC, .inl ?_, rC, .val (.int (i : Int)), .val (dO th2), .val (.lst (others many i)), w ++ [none], rfl, by simp [hl], fun j u hj => ?_, fun _ => ?_⟩
    · simp [hgi, hw6]
    · by_cases hjl : j < w.length
      · rw [List.getElem?_append_left hjl] at hj; exact h1 j u hj
      · rw [List.getElem?_append_right (by omega)] at hj
        have : j - w.length = 0 := by
          have := (List.getElem?_eq_some_iff.mp hj).1
          simp at this; omega
        rw [this] at hj; cases hj
    · rw [← hgi, ← hl]; simp
  · have hgi2 : ¬ ((i : Int) = (goal : Int)) := by omega
    refine ⟨_, rwC, .inl ?_, rC, .val (.int (i : Int)), .val (dO th2), .val (.lst (others many i)), w ++ [th2], rfl, by simp [hl], fun j u hj => ?_, fun hlt => ?_⟩
    · simp [hgi2, hw6]
    · by_cases hjl : j < w.length
      · rw [List.getElem?_append_left hjl] at hj; exact h1 j u hj
      · rw [List.getElem?_append_right (by omega)] at hj
        have e0 : j - w.length = 0 := by
          have := (List.getElem?_eq_some_iff.mp hj).1
          simp at this; omega
        rw [e0] at hj
        have e3 : th2 = some u := by simpa using hj
        have := hth2 u e3
        have ej : j = i := by omega
        rw [ej]; exact this
    · rw [List.getElem?_append_left (by omega)]
      exact h2 (by omega)
theorem way_ok {rw : Rw} {many goal : Nat} {kind : Int} (hm : 2 ≤ many ∧ many ≤ 6) (hg : goal < many) (hv : RV rw) : ∃ w rw', d__law_way [.row, .int (many : Int), .int (goal : Int), .int kind] rw = .ok (dWay w, rw') ∧ RV rw' ∧ WayOk many goal w := by
  unfold d__law_way b__law_way
  rw [dDef4]
  simp only [List.replicate, sSeq_ap, sSetO_ap, eLst_ap, aNil_ap, bind_ok, List.length_nil, Nat.zero_le, if_true, ofO_some, seqK_next, List.set_cons_succ, List.set_cons_zero, sFor_ap, aRng_ap, aCons_ap, eV_ap, List.getElem?_cons_succ, List.getElem?_cons_zero, getV_val, rng1_ap]
  rw [if_pos ⟨by omega, by omega⟩]
  simp only [ofO_some, bind_ok, Int.toNat_natCast]
  obtain ⟨l', rw', e1, r', x5, x6, x7, w, e2, hl, h1, h2⟩ := loop_all (tg := gN 5) (body := wayBody) (wayInv many goal kind) (rangeD 0 many) 0
    [.val .row, .val (.int (many : Int)), .val (.int (goal : Int)), .val (.int kind), .own (.lst []), .no, .no, .no] rw ⟨hv, .no, .no, .no, [], rfl, rfl, fun i v h => by simp at h, fun h => absurd h (Nat.not_lt_zero _)⟩ (way_turn hm hg)
  unfold wayBody at e1
  rw [e1]
  subst e2
  refine ⟨w, rw', ?_, r', ⟨by simpa using hl, h2 (by simpa using hg), h1⟩⟩
  simp [dWay]
end HC
end
section
/-! Plain lemmas: webs drawn, looked over, compared. -/
namespace HC
open PySem PySem.Spec L2 HD

/-! ### things compared with themselves -/
theorem isT_tt : isT "tuple" "tuple" = some true := by decide
theorem isT_tl : isT "tuple" "list" = some false := by decide
theorem isT_lt : isT "list" "tuple" = some false := by decide
theorem isT_ll : isT "list" "list" = some true := by decide
theorem isT_nt : isT "NoneType" "tuple" = some false := by decide
theorem isT_nl : isT "NoneType" "list" = some false := by decide
theorem isT_bt : isT "bool" "tuple" = some false := by decide
theorem isT_bl : isT "bool" "list" = some false := by decide
theorem isT_bb : isT "bool" "bool" = some true := by decide
theorem isT_it : isT "int" "tuple" = some false := by decide
theorem isT_il : isT "int" "list" = some false := by decide
theorem isT_ib : isT "int" "bool" = some false := by decide
theorem isT_is : isT "int" "str" = some false := by decide
theorem isT_ii : isT "int" "int" = some true := by decide
theorem isT_st : isT "str" "tuple" = some false := by decide
theorem isT_sl : isT "str" "list" = some false := by decide
theorem isT_sb : isT "str" "bool" = some false := by decide
theorem isT_ss : isT "str" "str" = some true := by decide
theorem fIsi_ap (d : D) (b : String) : fIsi [d, .raw (.ty b)] = (tyN d).bind fun a => (isT a b).map .bl := rfl
theorem fIsi2_ap (d : D) (b c : String) : fIsi2 b c d = (tyN d).bind fun a => (isT a b).bind fun p => (isT a c).map fun q => .bl (p || q) := rfl
@[simp] theorem fEq_nil : fEq (.lst []) (.lst []) = some (.bl true) := by unfold fEq; simp
@[simp] theorem fNe_nil : fNe (.lst []) (.lst []) = some (.bl false) := by unfold fNe; simp
theorem fEq_cn (x : D) (xs : List D) (h : fit 8 (.lst (x :: xs)) = true) : fEq (.lst (x :: xs)) (.lst []) = some (.bl false) := by unfold fEq; rw [if_pos ⟨h, by simp⟩]; simp
theorem fNe_cn (x : D) (xs : List D) (h : fit 8 (.lst (x :: xs)) = true) : fNe (.lst (x :: xs)) (.lst []) = some (.bl true) := by unfold fNe; rw [if_pos ⟨h, by simp⟩]; simp
theorem fEq_self {n : Nat} {d : D} (hn : n ≤ 8) (h : fit n d = true) : fEq d d = some (.bl true) := by
  have h8 := fit_mono n 8 d hn h
  unfold fEq
  rw [if_pos ⟨h8, h8⟩, eqD_refl 8 d h8]
theorem fNe_self {n : Nat} {d : D} (hn : n ≤ 8) (h : fit n d = true) : fNe d d = some (.bl false) := by
  have h8 := fit_mono n 8 d hn h
  unfold fNe
  rw [if_pos ⟨h8, h8⟩, eqD_refl 8 d h8]; rfl
/-- lists short enough, at every depth -/
def lenOk : Nat → D → Bool
  | n + 1, .tup xs => decide (xs.length ≤ 1000) && xs.all (lenOk n)
  | n + 1, .lst xs => decide (xs.length ≤ 1000) && xs.all (lenOk n)
  | _, .tup xs => xs.isEmpty
  | _, .lst xs => xs.isEmpty
  | _, _ => true
theorem alike_seq (self : FD) (xs : List D) (rw : Rw) (hl : xs.length ≤ 1000) (h : ∀ x ∈ xs, self [x, x] rw = .ok (.bl true, rw)) (l : Dl) (a : D) (ha : ∀ i : Nat, fIx a (.int (i : Int)) = xs[i]?) (hlen : fLen [a] = some (.int (xs.length : Nat)))
    (h0 : l[0]? = some (.val a)) (h1 : l[1]? = some (.val a)) (h2 : 2 < l.length) :
    (eBin fEq (eComp (aRng rng1 (aCons (eArgs fLen (aCons (eV 1) aNil)) aNil)) (gN 2) (tNot' (toB (eCall self (aCons (eBin fIx (eV 0) (eV 2)) (aCons (eBin fIx (eV 1) (eV 2)) aNil))))) (eV 2) [2]) (eLst aNil)) l rw = .ok (.bl true, rw) := by
  have hc : compL (gN 2) (tNot' (toB (eCall self (aCons (eBin fIx (eV 0) (eV 2)) (aCons (eBin fIx (eV 1) (eV 2)) aNil))))) (eV 2) (wipeD l [2]) (rangeD 0 xs.length) rw = .ok ([], rw) := by
    rw [compL_pure (fun _ => false) id (rangeD 0 xs.length) fun d hd => ?_]
    · simp
    · obtain ⟨i, hi, rfl⟩ := rangeD_mem hd
      refine ⟨_, rfl, ?_, fun h => by cases h⟩
      have e0 : (((wipeD l [2]).set 2 (.val (.int (0 + (i : Int)))))[0]?) = some (.val a) := by simp [wipeD, h0]
      have e1 : (((wipeD l [2]).set 2 (.val (.int (0 + (i : Int)))))[1]?) = some (.val a) := by simp [wipeD, h1]
      have e2 : (((wipeD l [2]).set 2 (.val (.int (0 + (i : Int)))))[2]?) = some (.val (.int (i : Int))) := by simp [wipeD, h2]
      have ex : xs[i]? = some xs[i] := List.getElem?_eq_getElem hi
      have hs := h xs[i] (List.getElem_mem hi)
      simp only [tNot_ap, toB_ap, eCall_ap, aCons_ap, aNil_ap, eBin_ap, eV_ap, e0, e1, e2, getV_val, bind_ok, ha, ex, ofO_some, hs, toBK_bl]
      rfl
  have hz : xs.length ≤ sizeLine := sl_big (by omega)
  simp only [eBin_ap, eComp_ap, aRng_ap, aCons_ap, aNil_ap, eArgs_ap, eV_ap, h1, getV_val, bind_ok, hlen, ofO_some, rng1_ap]
  rw [if_pos ⟨by omega, by omega⟩]
  simp only [ofO_some, bind_ok, Int.toNat_natCast, rangeD_len]
  rw [if_pos hz, hc]
  simp
theorem atI_nat_eq {xs : List D} (i : Nat) : L2.atI xs (i : Int) = xs[i]? := by
  cases h : xs[i]? with
  | some d => exact atI_nat h
  | none =>
    unfold L2.atI ixN
    have hle := List.getElem?_eq_none_iff.mp h
    rw [if_pos (by omega), if_neg (by omega)]
    rfl
theorem alike_self : ∀ (n : Nat) (d : D) (rw : Rw), fit n d = true → lenOk n d = true → r__law_alike (n + 1) [d, d] rw = .ok (.bl true, rw) := by
  intro n
  induction n with
  | zero =>
    intro d rw h hl
    unfold r__law_alike b__law_alike
    rw [dDef2]
    cases d <;> first | (simp [fit] at h; done) | skip
    case non => simp [fIsi_ap, fIsi2_ap, tyN, isT_nt, isT_nl]
    case bl b => simp [fIsi_ap, fIsi2_ap, tyN, isT_bt, isT_bl, isT_bb, isNonD]
    case int i => simp [fIsi_ap, fIsi2_ap, tyN, isT_it, isT_il, isT_ib, isT_is, isT_ii, isNonD]
    case str x =>
      have hs : PyData.strOk x = true := by simpa using h
      have he : fEq (.str x) (.str x) = some (.bl true) := fEq_self (n := 0) (by decide) (by simpa using hs)
      simp [fIsi_ap, fIsi2_ap, tyN, isT_st, isT_sl, isT_sb, isT_ss, isNonD, he]
  | succ n ih =>
    intro d rw h hl
    unfold r__law_alike b__law_alike
    rw [dDef2]
    cases d <;> first | (simp [fit] at h; done) | skip
    case non => simp [fIsi_ap, fIsi2_ap, tyN, isT_nt, isT_nl]
    case bl b => simp [fIsi_ap, fIsi2_ap, tyN, isT_bt, isT_bl, isT_bb, isNonD]
    case int i => simp [fIsi_ap, fIsi2_ap, tyN, isT_it, isT_il, isT_ib, isT_is, isT_ii, isNonD]
    case str x =>
      have hs : PyData.strOk x = true := by simpa using h
      have he : fEq (.str x) (.str x) = some (.bl true) := fEq_self (n := 0) (by decide) (by simpa using hs)
      simp [fIsi_ap, fIsi2_ap, tyN, isT_st, isT_sl, isT_sb, isT_ss, isNonD, he]
    case tup xs =>
      simp only [fit_tup, List.all_eq_true] at h
      have hl' : xs.length ≤ 1000 ∧ ∀ x ∈ xs, lenOk n x = true := by simpa [lenOk] using hl
      have hs := alike_seq (r__law_alike (n + 1)) xs rw hl'.1 (fun x hx => ih x rw (h x hx) (hl'.2 x hx)) [.val (.tup xs), .val (.tup xs), .no] (.tup xs) (fun i => atI_nat_eq i) rfl rfl rfl (by simp)
      simp only [List.replicate, sSeq_ap, sIf_ap, tOr_ap, toB_ap, eArgs_ap, aCons_ap, aNil_ap, eV_ap, eK_ap, List.getElem?_cons_succ, List.getElem?_cons_zero, getV_val, bind_ok, fIsi_ap, tyN, Option.bind_some, isT_tt, Option.map_some, ofO_some, toBK_bl, if_true, eBin_ap, fNe_bl, decide_true, Bool.not_true, Bool.false_eq_true, if_false, tNot_ap, eUn_ap, fIsi2_ap, isT_tl, Bool.or_false, sNext_ap, seqK_next, fLen_tup, fNe_int]
      rw [sRet_ap, hs]
      rfl
    case lst xs =>
      simp only [fit_lst, List.all_eq_true] at h
      have hl' : xs.length ≤ 1000 ∧ ∀ x ∈ xs, lenOk n x = true := by simpa [lenOk] using hl
      have hs := alike_seq (r__law_alike (n + 1)) xs rw hl'.1 (fun x hx => ih x rw (h x hx) (hl'.2 x hx)) [.val (.lst xs), .val (.lst xs), .no] (.lst xs) (fun i => atI_nat_eq i) rfl rfl rfl (by simp)
      simp only [List.replicate, sSeq_ap, sIf_ap, tOr_ap, toB_ap, eArgs_ap, aCons_ap, aNil_ap, eV_ap, eK_ap, List.getElem?_cons_succ, List.getElem?_cons_zero, getV_val, bind_ok, fIsi_ap, tyN, Option.bind_some, isT_lt, isT_ll, Option.map_some, ofO_some, toBK_bl, if_true, eBin_ap, fNe_bl, decide_true, Bool.not_true, Bool.false_eq_true, if_false, tNot_ap, eUn_ap, fIsi2_ap, Bool.false_or, Bool.or_true, sNext_ap, seqK_next, fLen_lst, fNe_int]
      rw [sRet_ap, hs]
      rfl
theorem alike_ok {d : D} {rw : Rw} (h : fit 5 d = true) (hl : lenOk 5 d = true) : d__law_alike [d, d] rw = .ok (.bl true, rw) := alike_self 5 d rw h hl
end HC
end
section
/-! Plain lemmas: webs. -/
namespace HC
open PySem PySem.Spec L2 HD

structure Web where
  many : Nat
  silent : List Nat
  ways : List (List (Option Nat))
def dNs (ns : List Nat) : List D := ns.map fun (n : Nat) => D.int (n : Int)
def dWeb (W : Web) : D := .tup [.int (W.many : Int), .tup (dNs W.silent), .tup (W.ways.map dWay)]
structure WebOk (W : Web) : Prop where
  lo : 2 ≤ W.many
  hi : W.many ≤ 6
  sort : W.silent.Pairwise (· < ·)
  sil : ∀ p ∈ W.silent, 1 ≤ p ∧ p < W.many
  len : W.ways.length = W.many - 1
  way : ∀ g, 1 ≤ g → g < W.many → ∃ w, W.ways[g - 1]? = some w ∧ WayOk W.many g w
theorem nodup_len {n : Nat} {l : List Nat} (h : l.Pairwise (· < ·)) (b : ∀ p ∈ l, p < n) : l.length ≤ n := by
  have h2 : ∀ (l : List Nat) (k : Nat), l.Pairwise (· < ·) → (∀ p ∈ l, k ≤ p ∧ p < n) → k ≤ n → l.length ≤ n - k := by
    intro l
    induction l with
    | nil => intro k _ _ _; simp
    | cons x xs ih =>
      intro k hp hb hk
      obtain ⟨a1, a2⟩ := List.pairwise_cons.mp hp
      have hx := hb x (by simp)
      have := ih (x + 1) a2 (fun p hp => ⟨a1 p hp, (hb p (List.mem_cons_of_mem _ hp)).2⟩) (by omega)
      simp only [List.length_cons]
      omega
  exact h2 l 0 h (fun p hp => ⟨Nat.zero_le _, b p hp⟩) (Nat.zero_le _)
theorem WebOk.silLen {W : Web} (h : WebOk W) : W.silent.length ≤ 6 := Nat.le_trans (nodup_len h.sort fun p hp => (h.sil p hp).2) h.hi
theorem fit_dO (n : Nat) (o : Option Nat) : fit n (dO o) = true := by cases o <;> simp
theorem fit_way (n : Nat) (w : List (Option Nat)) : fit (n + 1) (dWay w) = true := by simp [dWay, fit_dO]
theorem fit_dNs (n : Nat) (ns : List Nat) : (dNs ns).all (fit n) = true := by simp [dNs]
theorem fit_web (n : Nat) (W : Web) : fit (n + 3) (dWeb W) = true := by
  simp only [dWeb, fit_tup, List.all_cons, fit_int, fit_dNs, List.all_map, List.all_nil, Bool.and_true, Bool.true_and]
  simp [Function.comp_def, fit_way]
theorem rangeD_dNs (lo n : Nat) : rangeD (lo : Int) n = dNs (List.range' lo n) := by
  unfold rangeD dNs
  rw [List.range'_eq_map_range, List.map_map]
  refine List.map_congr_left fun k _ => ?_
  show D.int _ = D.int _
  congr 1
theorem eqDs_refl {n : Nat} : ∀ {xs : List D}, xs.all (fit n) = true → eqDs xs xs = true := fun {xs} h => by
  have := eqD_refl (n + 1) (.lst xs) h
  simpa using this

theorem web_ok {rw : Rw} {a b : Nat} (ha : 2 ≤ a) (hab : a ≤ b) (hb : b ≤ 6) (hv : RV rw) : ∃ W rw', d__law_web [.row, .int (a : Int), .int (b : Int)] rw = .ok (dWeb W, rw') ∧ RV rw' ∧ WebOk W ∧ a ≤ W.many ∧ W.many ≤ b := by
  unfold d__law_web b__law_web
  rw [dDef3]
  simp only [List.replicate, sSeq_ap, sSet_ap, eBin_ap, eV_ap, eCall_ap, aCons_ap, aNil_ap, eK_ap, List.getElem?_cons_succ, List.getElem?_cons_zero, getV_val, bind_ok, fSub_int, ofO_some, fAdd_int]
  obtain ⟨t, rw1, e1, r1, t0, t1⟩ := taken_ok hv (n := (b : Int) - (a : Int) + 1) (by omega)
  rw [e1]
  obtain ⟨many, hmany⟩ : ∃ many : Nat, (a : Int) + t = (many : Int) := ⟨((a : Int) + t).toNat, by omega⟩
  simp only [bind_ok, fAdd_int, ofO_some, List.set_cons_succ, List.set_cons_zero, seqK_next, sSeq_ap, sSet_ap, eBin_ap, eLst_ap, aCons_ap, aNil_ap, eK_ap, hmany, eCall_ap, eV_ap, List.getElem?_cons_succ, List.getElem?_cons_zero, getV_val]
  have hm : 2 ≤ many ∧ many ≤ 6 := by omega
  rw [if_pos (show ([D.int 2, D.int 4, D.int 99] : List D).length ≤ sizeLine from sl_big (by simp))]
  obtain ⟨t2, rw2, e2, r2, u0, u1⟩ := taken_ok r1 (n := 3) (by decide)
  simp only [ofO_some, bind_ok, e2, fIx_lst]
  obtain ⟨often, eo, ho⟩ : ∃ often : Int, L2.atI ([D.int 2, D.int 4, D.int 99] : List D) t2 = some (.int often) ∧ 0 < often := by
    have : t2 = 0 ∨ t2 = 1 ∨ t2 = 2 := by omega
    rcases this with rfl | rfl | rfl
    · exact ⟨2, by simp, by decide⟩
    · exact ⟨4, by simp, by decide⟩
    · exact ⟨99, by simp, by decide⟩
  rw [eo]
  simp only [ofO_some, bind_ok, seqK_next, List.set_cons_succ, List.set_cons_zero, sSeq_ap, sSet_ap, eComp_ap, aRng_ap, aCons_ap, aNil_ap, eK_ap, eV_ap, List.getElem?_cons_succ, List.getElem?_cons_zero, getV_val, rng2_ap]
  rw [if_pos ⟨⟨by omega, by omega⟩, by omega, by omega⟩]
  have hn : ((many : Int) - 1).toNat = many - 1 := by omega
  simp only [ofO_some, bind_ok, rangeD_len, hn]
  rw [if_pos (sl_big (by omega))]
  -- the silent ones
  obtain ⟨ys, rw3, e3, r3, s3⟩ := compL_flt (tg := gN 6) (c := toB (eBin fEq (eCall d__law_taken (aCons (eV 0) (aCons (eV 4) aNil))) (eK (.int 1)))) (e := eV 6)
    (lw := wipeD [.val .row, .val (.int (a : Int)), .val (.int (b : Int)), .val (.int (many : Int)), .val (.int often), .no, .no, .no] [6]) RV (rangeD 1 (many - 1)) rw2 r2 fun d rw hd r => by
      obtain ⟨t, rw', e, r', _⟩ := taken_ok r ho
      refine ⟨_, rfl, decide (t = 1), rw', ?_, r', ?_⟩
      · simp [wipeD, e]
      · simp [wipeD]
  rw [e3]
  obtain ⟨S, hS, rfl⟩ : ∃ S : List Nat, S.Sublist (List.range' 1 (many - 1)) ∧ ys = dNs S := by
    have h := s3
    rw [show rangeD 1 (many - 1) = dNs (List.range' 1 (many - 1)) from rangeD_dNs 1 (many - 1)] at h
    unfold dNs at h
    obtain ⟨l', h1, h2⟩ := List.sublist_map_iff.mp h
    exact ⟨l', h1, h2⟩
  have hSs : S.Pairwise (· < ·) := List.Pairwise.sublist hS (List.pairwise_lt_range' (s := 1) (n := many - 1))
  have hSm : ∀ p ∈ S, 1 ≤ p ∧ p < many := fun p hp => by
    have := hS.subset hp
    rw [List.mem_range'_1] at this
    omega
  simp only [bind_ok, seqK_next, List.set_cons_succ, List.set_cons_zero, sRet_ap, eTup_ap, aCons_ap, aNil_ap, eV_ap, eArgs_ap, eComp_ap, aRng_ap, eK_ap, List.getElem?_cons_succ, List.getElem?_cons_zero, getV_val, fTuple_lst, ofO_some, rng2_ap]
  rw [if_pos ⟨⟨by omega, by omega⟩, by omega, by omega⟩]
  simp only [ofO_some, bind_ok, rangeD_len, hn]
  rw [if_pos (sl_big (by omega))]
  obtain ⟨zs, rw4, e4, r4, l4, w4⟩ := compL_st (tg := gN 7) (c := cYes) (e := eCall d__law_way (aCons (eV 0) (aCons (eV 3) (aCons (eV 7) (aCons (eCall d__law_taken (aCons (eV 0) (aCons (eK (.int 3)) aNil))) aNil)))))
    (lw := wipeD [.val .row, .val (.int (a : Int)), .val (.int (b : Int)), .val (.int (many : Int)), .val (.int often), .val (.lst (dNs S)), .no, .no] [7]) RV (fun k y => ∃ w, y = dWay w ∧ WayOk many (k + 1) w) (rangeD 1 (many - 1)) 0 rw3 r3 fun i d rw hd r => by
      have hi : i < many - 1 := by have := (List.getElem?_eq_some_iff.mp hd).1; simpa using this
      rw [rangeD_get hi] at hd
      cases hd
      obtain ⟨t, rw1, e1, r1, _⟩ := taken_ok r (n := 3) (by decide)
      obtain ⟨w, rw2, e2, r2, hw⟩ := way_ok (kind := t) (goal := i + 1) hm (by omega) r1
      have ei : (1 : Int) + (i : Int) = ((i + 1 : Nat) : Int) := by omega
      refine ⟨_, rfl, rw, dWay w, rw2, rfl, ?_, r2, w, rfl, by rw [Nat.zero_add]; exact hw⟩
      simp only [wipeD, List.set_cons_succ, List.set_cons_zero, eCall_ap, aCons_ap, aNil_ap, eV_ap, eK_ap, List.getElem?_cons_succ, List.getElem?_cons_zero, getV_val, bind_ok, e1, ei]
      exact e2
  rw [e4]
  simp only [bind_ok, fTuple_lst, ofO_some]
  rw [if_pos (sl_big (by simp))]
  obtain ⟨ws, hws, hlw, hwo⟩ : ∃ ws : List (List (Option Nat)), zs = ws.map dWay ∧ ws.length = many - 1 ∧ ∀ i w, ws[i]? = some w → WayOk many (i + 1) w := by
    have key : ∀ (zs : List D) (k : Nat), (∀ i y, zs[i]? = some y → ∃ w, y = dWay w ∧ WayOk many (k + i + 1) w) → ∃ ws : List (List (Option Nat)), zs = ws.map dWay ∧ ∀ i w, ws[i]? = some w → WayOk many (k + i + 1) w := by
      intro zs
      induction zs with
      | nil => intro k _; exact ⟨[], rfl, fun i w h => by simp at h⟩
      | cons z zs ih =>
        intro k h
        obtain ⟨w, hz, hw⟩ := h 0 z rfl
        obtain ⟨ws, h1, h2⟩ := ih (k + 1) fun i y hy => by
          have := h (i + 1) y (by simpa using hy)
          rwa [show k + (i + 1) + 1 = k + 1 + i + 1 by omega] at this
        refine ⟨w :: ws, by rw [hz, h1]; rfl, fun i v hv => ?_⟩
        cases i with
        | zero => simp at hv; subst hv; exact hw
        | succ i => have := h2 i v (by simpa using hv); rwa [show k + (i + 1) + 1 = k + 1 + i + 1 by omega]
    obtain ⟨ws, h1, h2⟩ := key zs 0 fun i y hy => w4 i y hy
    refine ⟨ws, h1, ?_, fun i w h => by have := h2 i w h; rwa [Nat.zero_add] at this⟩
    rw [h1, List.length_map] at l4
    simpa using l4
  subst hws
  refine ⟨⟨many, S, ws⟩, rw4, rfl, r4, ⟨hm.1, hm.2, hSs, hSm, hlw, fun g h1 h2 => ?_⟩, by show a ≤ many; omega, by show many ≤ b; omega⟩
  have hg : g - 1 < ws.length := by show g - 1 < ws.length; rw [hlw]; show g - 1 < many - 1; have h2' : g < many := h2; omega
  refine ⟨ws[g - 1], List.getElem?_eq_getElem hg, ?_⟩
  have := hwo (g - 1) _ (List.getElem?_eq_getElem hg)
  rwa [show g - 1 + 1 = g by omega] at this

/-! ### webs are none refused -/
theorem sortU_id {S : List Nat} (h : S.Pairwise (· < ·)) : sortU (S.map fun (n : Nat) => (n : Int)) = S.map fun (n : Nat) => (n : Int) := by
  refine pw_uniq (pw_sortU _) ?_ fun k => mem_sortU
  rw [List.pairwise_map]
  exact h.imp fun {a b} hab => by omega
theorem toInts_dNs : ∀ S : List Nat, toInts (dNs S) = some (S.map fun (n : Nat) => (n : Int))
  | [] => rfl
  | n :: S => by
    show (toInts (dNs S)).map _ = _
    rw [toInts_dNs S]
    rfl
theorem is_way_ok {many goal : Nat} {w : List (Option Nat)} {rw : Rw} (hm : many ≤ 6) (h : WayOk many goal w) : d_is_way [.int (many : Int), .int (goal : Int), dWay w] rw = .ok (.bl true, rw) := by
  unfold d_is_way b_is_way
  rw [dDef3]
  have hat : L2.atI (w.map dO) (goal : Int) = some .non := by rw [atI_nat_eq, List.getElem?_map, h.at_]; rfl
  simp only [dWay, List.replicate, sSeq_ap, sIf_ap, tOr_ap, toB_ap, eBin_ap, eUn_ap, eArgs_ap, aCons_ap, aNil_ap, eV_ap, List.getElem?_cons_succ, List.getElem?_cons_zero, getV_val, bind_ok, fLen_tup, ofO_some, List.length_map, h.len, fNe_int, decide_true, Bool.not_true, toBK_bl, Bool.false_eq_true, if_false, fIx_tup, hat, notNon_non, sNext_ap, seqK_next, sFor_ap, aRng_ap, rng1_ap]
  rw [if_pos ⟨by omega, by omega⟩]
  simp only [ofO_some, bind_ok, Int.toNat_natCast]
  generalize hb : sSeq (sSet 4 _) _ = body
  obtain ⟨l', rw', e, r, x3, x4, e2⟩ := loop_all (tg := gN 3) (body := body) (fun _ l rw' => rw' = rw ∧ ∃ x3 x4, l = [.val (.int (many : Int)), .val (.int (goal : Int)), .val (.tup (w.map dO)), x3, x4]) (rangeD 0 many) 0
    [.val (.int (many : Int)), .val (.int (goal : Int)), .val (.tup (w.map dO)), .no, .no] rw ⟨rfl, .no, .no, rfl⟩ (by
      rintro i d l rw2 hd ⟨rfl, x3, x4, rfl⟩
      have hi : i < many := by have := (List.getElem?_eq_some_iff.mp hd).1; simpa using this
      rw [rangeD_get hi] at hd
      cases hd
      have hi2 : i < w.length := by rw [h.len]; exact hi
      have hx : L2.atI (w.map dO) (i : Int) = some (dO w[i]) := by rw [atI_nat_eq, List.getElem?_map, List.getElem?_eq_getElem hi2]; rfl
      subst hb
      refine ⟨_, rfl, _, rw2, .inl ?_, rfl, .val (.int (i : Int)), .val (dO w[i]), rfl⟩
      cases hw : w[i] with
      | none => simp [hx, hw]
      | some v =>
        obtain ⟨h1, h2⟩ := h.go i v (by rw [List.getElem?_eq_getElem hi2, hw])
        have h3 : ¬ ((v : Int) = (i : Int)) := by omega
        simp [hx, hw, h1, h3])
  subst r e2
  rw [e]
  simp
theorem need_web_ok {W : Web} {rw : Rw} (h : WebOk W) : d_need_web [dWeb W] rw = .ok (.non, rw) := by
  unfold d_need_web b_need_web
  rw [dDef1]
  have hmany : d_is_many [.int (W.many : Int)] rw = .ok (.bl true, rw) := by
    unfold d_is_many b_is_many
    rw [dDef1]
    have h1 := h.lo
    have h2 := h.hi
    have h3 : (2 : Int) ≤ (W.many : Int) := by omega
    have h4 : (W.many : Int) ≤ 6 := by omega
    simp [h3, h4]
  have hsil : eUn sortSet (eV 2) [.val (dWeb W), .val (.int (W.many : Int)), .val (.tup (dNs W.silent)), .val (.tup (W.ways.map dWay)), .no, .no] rw = .ok (.lst (dNs W.silent), rw) := by
    simp only [eUn_ap, eV_ap, List.getElem?_cons_succ, List.getElem?_cons_zero, getV_val, bind_ok]
    unfold sortSet
    simp only [toInts_dNs, Option.bind_some]
    rw [if_pos (by rw [List.length_map]; have := h.silLen; omega), sortU_id h.sort, List.map_map]
    rfl
  have hc : compL (gN 5) (tNot' (toB (eChain fLe fLt (eK (.int 1)) (eV 5) (eV 1)))) (eV 5) (wipeD [.val (dWeb W), .val (.int (W.many : Int)), .val (.tup (dNs W.silent)), .val (.tup (W.ways.map dWay)), .no, .no] [5]) (dNs W.silent) rw = .ok ([], rw) := by
    rw [compL_pure (fun _ => false) id (dNs W.silent) fun d hd => ?_]
    · simp
    · unfold dNs at hd
      obtain ⟨p, hp, rfl⟩ := List.mem_map.mp hd
      obtain ⟨h1, h2⟩ := h.sil p hp
      have h3 : (1 : Int) ≤ (p : Int) := by omega
      refine ⟨_, rfl, ?_, fun z => by cases z⟩
      simp [wipeD, h3, h2]
  have hlen : (dNs W.silent).length ≤ sizeLine := sl_big (by rw [dNs, List.length_map]; have := h.silLen; omega)
  have hne : fNe (.lst (dNs W.silent)) (.lst (dNs W.silent)) = some (.bl false) := fNe_self (n := 1) (by decide) (by simp [fit_dNs])
  have hw : ((W.ways.length : Nat) : Int) = (W.many : Int) - 1 := by have := h.len; have := h.lo; omega
  rw [show dWeb W = .tup [.int (W.many : Int), .tup (dNs W.silent), .tup (W.ways.map dWay)] from rfl] at hsil hc ⊢
  simp only [List.replicate, sSeq_ap, sAsg_ap, eV_ap, List.getElem?_cons_succ, List.getElem?_cons_zero, getV_val, bind_ok, gT_ap, List.length_cons, List.length_nil, if_true, gsCons_ap, gN_ap, Option.bind_some, gsNil_ap, List.set_cons_succ, List.set_cons_zero, seqK_next, sIf_ap, tNot_ap, toB_ap, eCall_ap, aCons_ap, aNil_ap, hmany, toBK_bl, Bool.not_true, Bool.false_eq_true, if_false, sNext_ap, tOr_ap]
  rw [eBin_ap, eArgs_ap]
  simp only [aCons_ap, aNil_ap, eV_ap, List.getElem?_cons_succ, List.getElem?_cons_zero, getV_val, bind_ok, fList_tup, ofO_some]
  rw [hsil]
  simp only [bind_ok, hne, ofO_some, toBK_bl, Bool.false_eq_true, if_false]
  rw [eBin_ap, eComp_ap]
  simp only [aItems_ap, eV_ap, List.getElem?_cons_succ, List.getElem?_cons_zero, getV_val, bind_ok, itemsOf_tup, ofO_some]
  rw [if_pos hlen, hc]
  simp only [bind_ok, eLst_ap, aNil_ap, List.length_nil, Nat.zero_le, if_true, ofO_some, fNe_nil, toBK_bl, Bool.false_eq_true, if_false, sNext_ap, seqK_next, sSeq_ap, sIf_ap, toB_ap, eBin_ap, eArgs_ap, aCons_ap, eV_ap, eK_ap, List.getElem?_cons_succ, List.getElem?_cons_zero, getV_val, fLen_tup, List.length_map, fSub_int, fNe_int, hw, decide_true, Bool.not_true, sFor_ap, aRng_ap, rng2_ap]
  have hlo := h.lo
  have hhi := h.hi
  rw [if_pos ⟨⟨by omega, by omega⟩, by omega, by omega⟩]
  have hn : ((W.many : Int) - 1).toNat = W.many - 1 := by omega
  simp only [ofO_some, bind_ok, hn]
  generalize hb : sIf (tNot' (toB (eCall d_is_way _))) _ _ = body
  obtain ⟨l', rw', e, r, x4, e2⟩ := loop_all (tg := gN 4) (body := body) (fun _ l rw' => rw' = rw ∧ ∃ x4, l = [.val (.tup [.int (W.many : Int), .tup (dNs W.silent), .tup (W.ways.map dWay)]), .val (.int (W.many : Int)), .val (.tup (dNs W.silent)), .val (.tup (W.ways.map dWay)), x4, .no]) (rangeD 1 (W.many - 1)) 0
    _ rw ⟨rfl, .no, rfl⟩ (by
      rintro i d l rw2 hd ⟨rfl, x4, rfl⟩
      have hi : i < W.many - 1 := by have := (List.getElem?_eq_some_iff.mp hd).1; simpa using this
      rw [rangeD_get hi] at hd
      cases hd
      obtain ⟨w, hw1, hw2⟩ := h.way (i + 1) (by omega) (by omega)
      have ei : (1 : Int) + (i : Int) = ((i + 1 : Nat) : Int) := by omega
      have hx : L2.atI (W.ways.map dWay) (((i + 1 : Nat) : Int) - 1) = some (dWay w) := by
        rw [show ((i + 1 : Nat) : Int) - 1 = ((i : Nat) : Int) by omega, atI_nat_eq, List.getElem?_map]
        rw [show i + 1 - 1 = i by omega] at hw1
        rw [hw1]; rfl
      have hiw := is_way_ok (rw := rw2) hhi hw2
      subst hb
      refine ⟨_, rfl, _, rw2, .inl ?_, rfl, .val (.int ((i + 1 : Nat) : Int)), rfl⟩
      rw [ei]
      simp only [List.set_cons_succ, List.set_cons_zero, sIf_ap, tNot_ap, toB_ap, eCall_ap, aCons_ap, aNil_ap, eV_ap, eBin_ap, eK_ap, List.getElem?_cons_succ, List.getElem?_cons_zero, getV_val, bind_ok, fSub_int, ofO_some, fIx_tup, hx, hiw, toBK_bl, Bool.not_true, Bool.false_eq_true, if_false, sNext_ap])
  subst r e2
  rw [e]
  simp
end HC
end
section
/-! Plain lemmas: walks. -/
namespace HC
open PySem PySem.Spec L2 HD

theorem dNs_append (P Q : List Nat) : dNs (P ++ Q) = dNs P ++ dNs Q := by simp [dNs]
theorem dNs_len (P : List Nat) : (dNs P).length = P.length := by simp [dNs]
theorem dNs_get (P : List Nat) (i : Nat) : (dNs P)[i]? = (P[i]?).map fun (n : Nat) => D.int (n : Int) := by simp [dNs]
theorem flat_dNs (P : List Nat) : (dNs P).all flatD = true := by simp [dNs, flatD]
theorem anyF_dNs (v : Nat) : ∀ P : List Nat, ((dNs P).any fun y => eqF y (.int (v : Int))) = decide (v ∈ P)
  | [] => by simp [dNs]
  | x :: P => by
    show (eqF (.int (x : Int)) (.int (v : Int)) || (dNs P).any fun y => eqF y (.int (v : Int))) = _
    rw [anyF_dNs v P]
    simp only [eqF, List.mem_cons]
    by_cases h : v = x
    · subst h; simp
    · have h2 : ¬ ((x : Int) = (v : Int)) := by omega
      simp [h, h2]
theorem fIn_dNs (neg : Bool) (v : Nat) (P : List Nat) : fIn neg (.int (v : Int)) (.lst (dNs P)) = some (.bl (if neg = true then !decide (v ∈ P) else decide (v ∈ P))) := by
  unfold fIn fInF seqOf
  simp only [flatD, flat_dNs, and_self, if_true, anyF_dNs]
theorem fIn_dNsT (neg : Bool) (v : Nat) (P : List Nat) : fIn neg (.int (v : Int)) (.tup (dNs P)) = some (.bl (if neg = true then !decide (v ∈ P) else decide (v ∈ P))) := by
  unfold fIn fInF seqOf
  simp only [flatD, flat_dNs, and_self, if_true, anyF_dNs]
/-- the first place of v -/
def fst_ (v : Nat) : List Nat → Nat
  | [] => 0
  | x :: P => if x = v then 0 else fst_ v P + 1
theorem firstAt_dNs {v : Nat} : ∀ {P : List Nat}, v ∈ P → firstAt (.int (v : Int)) (dNs P) = some (fst_ v P)
  | [], h => by simp at h
  | x :: P, h => by
    show (if eqD (.int (x : Int)) (.int (v : Int)) = true then some 0 else (firstAt (.int (v : Int)) (dNs P)).map (· + 1)) = _
    unfold fst_
    by_cases e : x = v
    · subst e; simp
    · have e2 : ¬ ((x : Int) = (v : Int)) := by omega
      have hm : v ∈ P := (List.mem_cons.mp h).resolve_left (Ne.symm e)
      simp [e, e2, firstAt_dNs hm]
theorem fst_lt {v : Nat} : ∀ {P : List Nat}, v ∈ P → fst_ v P < P.length ∧ P[fst_ v P]? = some v ∧ ∀ m, m < fst_ v P → P[m]? ≠ some v
  | [], h => by simp at h
  | x :: P, h => by
    unfold fst_
    by_cases e : x = v
    · subst e; simp
    · have hm : v ∈ P := (List.mem_cons.mp h).resolve_left (Ne.symm e)
      obtain ⟨h1, h2, h3⟩ := fst_lt hm
      rw [if_neg e]
      refine ⟨by simp; omega, by simpa using h2, fun m hm => ?_⟩
      cases m with
      | zero => simpa using e
      | succ m => simpa using h3 m (by omega)
theorem fIndex_dNs {v : Nat} {P : List Nat} (h : v ∈ P) : fIndex (.lst (dNs P)) [.int (v : Int)] = some (.int (fst_ v P : Nat)) := by
  show (if fit 8 (.lst (dNs P)) = true ∧ fit 8 (.int (v : Int)) = true then (firstAt (.int (v : Int)) (dNs P)).map fun j => D.int (j : Nat) else none) = _
  rw [if_pos ⟨by simp [fit_dNs], by simp⟩, firstAt_dNs h]; rfl
/-- the places of v, in a comprehension -/
theorem filter_fst {v : Nat} (b : Nat → Bool) : ∀ {P : List Nat} (lo : Nat), v ∈ P → (∀ i, i < P.length → b (lo + i) = decide (P[i]? = some v)) → ∃ r, (List.range' lo P.length).filter b = (lo + fst_ v P) :: r
  | [], lo, h, _ => by simp at h
  | x :: P, lo, h, hb => by
    unfold fst_
    rw [List.length_cons, List.range'_succ]
    by_cases e : x = v
    · subst e
      have h0 := hb 0 (by simp)
      simp at h0
      rw [List.filter_cons, if_pos (by simpa using h0)]
      exact ⟨(List.range' (lo + 1) P.length).filter b, by simp⟩
    · have hm : v ∈ P := (List.mem_cons.mp h).resolve_left (Ne.symm e)
      have h0 := hb 0 (by simp)
      simp [e] at h0
      rw [List.filter_cons, if_neg (by simp [h0])]
      obtain ⟨r, hr⟩ := filter_fst b (lo + 1) hm fun i hi => by
        have := hb (i + 1) (by simp; omega)
        rw [show lo + (i + 1) = lo + 1 + i by omega] at this
        simpa using this
      refine ⟨r, ?_⟩
      rw [hr, if_neg e]
      congr 1
      omega
/-- how a walk ends -/
def walkM (w : List (Option Nat)) (goal : Nat) : Nat → List Nat → Nat → Option D
  | 0, _, _ => none
  | n + 1, Q, v => match w[v]? with
    | some none => some (.tup [.tup (dNs (Q ++ [v])), .str "lost"])
    | some (some u) => if u = goal then some (.tup [.tup (dNs (Q ++ [v] ++ [goal])), .str "there"]) else if u ∈ Q ++ [v] then some (.tup [.tup (dNs (Q ++ [v])), .int (fst_ u (Q ++ [v]) : Nat)]) else walkM w goal n (Q ++ [v]) u
    | none => none
structure WkInv (many goal : Nat) (Q : List Nat) (v : Nat) : Prop where
  lt : ∀ p ∈ Q ++ [v], p < many ∧ p ≠ goal
  nd : (Q ++ [v]).Nodup
theorem WkInv.next {many goal : Nat} {Q : List Nat} {v u : Nat} (h : WkInv many goal Q v) (h1 : u < many) (h2 : u ≠ goal) (h3 : u ∉ Q ++ [v]) : WkInv many goal (Q ++ [v]) u := by
  refine ⟨fun p hp => ?_, ?_⟩
  · rcases List.mem_append.mp hp with hp | hp
    · exact h.lt p hp
    · simp at hp; subst hp; exact ⟨h1, h2⟩
  · rw [List.nodup_append]
    refine ⟨h.nd, by simp, fun a ha b hb => ?_⟩
    simp at hb
    subst hb
    exact fun e => h3 (e ▸ ha)
theorem nodup_lt_len {n : Nat} {l : List Nat} (h : l.Nodup) (b : ∀ p ∈ l, p < n) : l.length ≤ n := by
  have := List.Nodup.length_le_of_subset h (l₂ := List.range n) fun p hp => List.mem_range.mpr (b p hp)
  simpa using this
theorem WkInv.len {many goal : Nat} {Q : List Nat} {v : Nat} (h : WkInv many goal Q v) : Q.length + 1 ≤ many := by
  have := nodup_lt_len h.nd fun p hp => (h.lt p hp).1
  simpa using this
theorem walkM_some {many goal : Nat} {w : List (Option Nat)} (hw : WayOk many goal w) : ∀ (n : Nat) (Q : List Nat) (v : Nat), WkInv many goal Q v → many + 1 ≤ Q.length + 1 + n → ∃ d, walkM w goal n Q v = some d
  | 0, Q, v, h, hn => by have := h.len; omega
  | n + 1, Q, v, h, hn => by
    have hv := (h.lt v (by simp)).1
    have hvl : v < w.length := by rw [hw.len]; exact hv
    have e : w[v]? = some w[v] := List.getElem?_eq_getElem hvl
    unfold walkM
    rw [e]
    cases q : w[v] with
    | none => exact ⟨_, rfl⟩
    | some u =>
      dsimp only
      split
      · exact ⟨_, rfl⟩
      · split
        · exact ⟨_, rfl⟩
        · rename_i h1 h2
          obtain ⟨h3, h4⟩ := hw.go v u (by rw [e, q])
          exact walkM_some hw n (Q ++ [v]) u (h.next h3 h1 h2) (by simp; omega)
theorem atI_last' (Q : List Nat) (v : Nat) : L2.atI (dNs (Q ++ [v])) (-1) = some (.int (v : Int)) := by
  rw [dNs_append]; exact atI_last _ _
/-! ### the program's walk -/
end HC
end
section
/-! What comes back, plainly. -/
namespace HC
open PySem PySem.Spec L2 HD
theorem rng1_of' {j : Int} {n : Nat} (h : j = (n : Int)) (hn : n ≤ 100) : rng1 [.int j] = some (rangeD 0 n) := by
  rw [rng1_ap, if_pos ⟨by omega, by omega⟩]; subst h; rfl
theorem rng2_of' {i j : Int} {a b : Nat} (h : i = (a : Int)) (h' : j = (b : Int)) (ha : a ≤ 100) (hb : b ≤ 100) : rng2 [.int i, .int j] = some (rangeD (a : Int) (b - a)) := by
  subst h; subst h'
  rw [rng2_ap, if_pos ⟨⟨by omega, by omega⟩, ⟨by omega, by omega⟩⟩, show ((b : Int) - (a : Int)).toNat = b - a by omega]
theorem compL_map {α : Type} {tg : D → Dl → Option Dl} {c : EM Bool} {e : EM D} {lw : Dl} {rw : Rw} (f : α → D) (h : α → D) : ∀ xs : List α, (∀ x : α, ∃ l1, tg (f x) lw = some l1 ∧ c l1 rw = .ok (true, rw) ∧ e l1 rw = .ok (h x, rw)) → compL tg c e lw (xs.map f) rw = .ok (xs.map h, rw)
  | [], _ => rfl
  | x :: xs, hh => by
    obtain ⟨l1, h1, h2, h3⟩ := hh x
    have ih := compL_map f h xs hh
    rw [List.map_cons, List.map_cons]
    unfold compL
    rw [h1]
    simp only [h2, h3, noX_ok, bind_ok, if_true, ih]
/-- one hop -/
def hopM (w : List (Option Nat)) (goal : Nat) : Option Nat → Option Nat
  | none => none
  | some p => if p = goal then some p else (w[p]?).getD none
def posM (w : List (Option Nat)) (goal : Nat) : Nat → Option Nat
  | 0 => some 0
  | n + 1 => hopM w goal (posM w goal n)
theorem posM_lt {many goal : Nat} {w : List (Option Nat)} (hm : 0 < many) (hw : WayOk many goal w) : ∀ (n p : Nat), posM w goal n = some p → p < many
  | 0, p, h => by cases h; exact hm
  | n + 1, p, h => by
    unfold posM at h
    cases q : posM w goal n with
    | none => rw [q] at h; cases h
    | some r =>
      rw [q] at h
      have hr := posM_lt hm hw n r q
      unfold hopM at h
      simp only [] at h
      split at h
      · cases h; exact hr
      · cases e : w[r]? with
        | none => rw [e] at h; cases h
        | some o =>
          rw [e] at h
          simp at h
          subst h
          exact (hw.go r p e).1
theorem way_get {many goal : Nat} {w : List (Option Nat)} (hw : WayOk many goal w) {p : Nat} (hp : p < many) : w[p]? = some ((w[p]?).getD none) := by
  have h : p < w.length := by rw [hw.len]; exact hp
  rw [List.getElem?_eq_getElem h]
  rfl
/-- the answer -/
def nothingD : D := .tup [.str "nothing"]
def ansM (silent : List Nat) (goal : Nat) : Option Nat → D
  | none => nothingD
  | some p => if p ∈ silent then nothingD else .tup [.str (if p = goal then "there" else "gone"), .int (p : Int)]
theorem fIn_dO (o : Option Nat) (goal : Nat) : fNe (dO (some goal)) (.int (goal : Int)) = some (.bl false) := by simp
def postsBody : SM := (sSeq (sIf (tAnd' (toB (eUn notNonD (eV 3))) (toB (eBin fNe (eV 3) (eV 1)))) (sSet 3 (eBin fIxD (eV 0) (eV 3))) sNext) (sMut "list" 4 fAppend (aCons (eV 3) aNil)))
/-- what a way, told as a value, tells of the next post -/
def Tells (wD : D) (w : List (Option Nat)) (goal : Nat) : Prop := ∀ n p, posM w goal n = some p → p ≠ goal → fIxD wD (.int (p : Int)) = some (dO ((w[p]?).getD none))
theorem tells_way {many goal : Nat} {w : List (Option Nat)} (hm : 0 < many) (hw : WayOk many goal w) : Tells (dWay w) w goal := fun n p q _ => by
  have hp := posM_lt hm hw n p q
  show L2.atI (w.map dO) (p : Int) = _
  rw [atI_nat_eq, List.getElem?_map, way_get hw hp]; rfl
theorem postsBody_ok {wD : D} {goal : Nat} {w : List (Option Nat)} {rw : Rw} (ht : Tells wD w goal) (n : Nat) (hn : n ≤ 100) (x2 x5 : Sl) (ds : List D) (hd : ds.length = n) :
    postsBody [.val wD, .val (.int (goal : Int)), x2, .val (dO (posM w goal n)), .own (.lst ds), x5] rw = .ok (.next, [.val wD, .val (.int (goal : Int)), x2, .val (dO (posM w goal (n + 1))), .own (.lst (ds ++ [dO (posM w goal (n + 1))])), x5], rw) := by
  have hl : ds.length < sizeLine := sl_lt (by omega)
  cases q : posM w goal n with
  | none =>
    have e : posM w goal (n + 1) = none := by unfold posM; rw [q]; rfl
    rw [e]
    simp -implicitDefEqProofs only [postsBody, sSeq_ap, sIf_ap, tAnd_ap, toB_ap, eUn_ap, eV_ap, List.getElem?_cons_succ, List.getElem?_cons_zero, getV_val, bind_ok, dO_none, notNon_non, ofO_some, toBK_bl, Bool.false_eq_true, if_false, sNext_ap, seqK_next, sMut_ap, tyD_lst, if_true, aCons_ap, aNil_ap, fAppend_lst, hl, noX_ok, List.set_cons_succ, List.set_cons_zero]
  | some p =>
    by_cases hg : p = goal
    · have e : posM w goal (n + 1) = some p := by unfold posM; rw [q]; unfold hopM; simp [hg]
      rw [e]
      have hg' : (p : Int) = (goal : Int) := by omega
      simp -implicitDefEqProofs only [postsBody, sSeq_ap, sIf_ap, tAnd_ap, toB_ap, eUn_ap, eBin_ap, eV_ap, List.getElem?_cons_succ, List.getElem?_cons_zero, getV_val, bind_ok, dO_some, notNon_int, ofO_some, toBK_bl, if_true, fNe_int, hg', decide_true, Bool.not_true, Bool.false_eq_true, if_false, sNext_ap, seqK_next, sMut_ap, tyD_lst, aCons_ap, aNil_ap, fAppend_lst, hl, noX_ok, List.set_cons_succ, List.set_cons_zero]
    · have e : posM w goal (n + 1) = (w[p]?).getD none := by unfold posM; rw [q]; unfold hopM; simp [hg]
      rw [e]
      have hg' : ¬ (p : Int) = (goal : Int) := by omega
      have ex := ht n p q hg
      generalize (w[p]?).getD none = o at ex
      simp -implicitDefEqProofs only [postsBody, sSeq_ap, sIf_ap, tAnd_ap, toB_ap, eUn_ap, eBin_ap, eV_ap, List.getElem?_cons_succ, List.getElem?_cons_zero, getV_val, bind_ok, dO_some, notNon_int, ofO_some, toBK_bl, if_true, fNe_int, hg', decide_false, Bool.not_false, sSet_ap, ex, seqK_next, sMut_ap, tyD_lst, aCons_ap, aNil_ap, fAppend_lst, hl, noX_ok, List.set_cons_succ, List.set_cons_zero]
def posL (w : List (Option Nat)) (goal : Nat) (a n : Nat) : List D := (List.range' a n).map fun h => dO (posM w goal (h + 1))
theorem posts_loop {wD : D} {goal : Nat} {w : List (Option Nat)} {rw : Rw} (ht : Tells wD w goal) (x2 : Sl) : ∀ (ys : List D) (a : Nat) (x5 : Sl) (ds : List D), ds.length = a → a + ys.length ≤ 100 →
    ∃ x5' x3', sLoop (gN 5) postsBody ys [.val wD, .val (.int (goal : Int)), x2, .val (dO (posM w goal a)), .own (.lst ds), x5] rw = .ok (.next, [.val wD, .val (.int (goal : Int)), x2, x3', .own (.lst (ds ++ posL w goal a ys.length)), x5'], rw)
  | [], a, x5, ds, hd, _ => ⟨x5, .val (dO (posM w goal a)), by simp [sLoop, posL]⟩
  | y :: ys, a, x5, ds, hd, hn => by
    simp at hn
    obtain ⟨x5', x3', e⟩ := posts_loop ht x2 ys (a + 1) (.val y) (ds ++ [dO (posM w goal (a + 1))]) (by simp [hd]) (by omega)
    refine ⟨x5', x3', ?_⟩
    unfold sLoop
    simp only [gN_ap, List.set_cons_succ, List.set_cons_zero]
    rw [postsBody_ok ht a (by omega) x2 (.val y) ds hd]
    simp only [bind_ok]
    rw [e]
    have : ds ++ [dO (posM w goal (a + 1))] ++ posL w goal (a + 1) ys.length = ds ++ posL w goal a (y :: ys).length := by
      rw [List.append_assoc]
      congr 1
    rw [this]
theorem posts_gen {wD : D} {goal : Nat} {w : List (Option Nat)} {rw : Rw} (ht : Tells wD w goal) (n : Nat) (hn : n ≤ 60) : d_posts_on [wD, .int (goal : Int), .int (n : Int)] rw = .ok (.lst (posL w goal 0 n), rw) := by
  unfold d_posts_on
  rw [dDef3]
  obtain ⟨x5, x3, e⟩ := posts_loop (rw := rw) ht (.val (.int (n : Int))) (rangeD 0 n) 0 .no [] rfl (by simp; omega)
  rw [rangeD_len] at e
  have e0 : dO (posM w goal 0) = .int 0 := rfl
  rw [e0] at e
  have eb : b_posts_on = sSeq (sSet 3 (eK (.int 0))) (sSeq (sSetO 4 (eLst aNil)) (sSeq (sFor (aRng rng1 (aCons (eV 2) aNil)) (gN 5) postsBody) (sRetV 4))) := rfl
  have hr : rng1 [.int (n : Int)] = some (rangeD 0 n) := rng1_of' rfl (by omega)
  have hz : (0 : Nat) ≤ sizeLine := Nat.zero_le _
  rw [eb]
  simp -implicitDefEqProofs only [List.replicate, sSeq_ap, sSet_ap, eK_ap, bind_ok, List.set_cons_succ, List.set_cons_zero, seqK_next, sSetO_ap, eLst_ap, aNil_ap, List.length_nil, hz, if_true, ofO_some, sFor_ap, aRng_ap, aCons_ap, eV_ap, List.getElem?_cons_succ, List.getElem?_cons_zero, getV_val, hr, e, sRetV_ap, List.nil_append, dFin_ret]
theorem answer_ok {silent : List Nat} {goal : Nat} {o : Option Nat} {rw : Rw} (l0 : silent.length ≤ 6) : d_answer_of [.tup (dNs silent), .int (goal : Int), dO o] rw = .ok (ansM silent goal o, rw) := by
  unfold d_answer_of
  rw [dDef3]
  cases o with
  | none =>
    simp -implicitDefEqProofs only [b_answer_of, List.replicate, sSeq_ap, sIf_ap, tOr_ap, toB_ap, eUn_ap, eV_ap, List.getElem?_cons_succ, List.getElem?_cons_zero, getV_val, bind_ok, dO_none, isNon_non, ofO_some, toBK_bl, if_true, sRet_ap, eK_ap, seqK_ret, dFin_ret, ansM, nothingD]
  | some p =>
    by_cases hs : p ∈ silent
    · simp -implicitDefEqProofs only [b_answer_of, List.replicate, sSeq_ap, sIf_ap, tOr_ap, toB_ap, eUn_ap, eBin_ap, eV_ap, List.getElem?_cons_succ, List.getElem?_cons_zero, getV_val, bind_ok, dO_some, isNon_int, ofO_some, toBK_bl, Bool.false_eq_true, if_false, fIn_dNsT, hs, decide_true, if_true, sRet_ap, eK_ap, seqK_ret, dFin_ret, ansM, nothingD]
    · have h2 : 2 ≤ sizeLine := sl_big (by decide)
      by_cases hg : p = goal
      · subst hg
        simp -implicitDefEqProofs only [b_answer_of, List.replicate, sSeq_ap, sIf_ap, tOr_ap, toB_ap, eUn_ap, eBin_ap, eV_ap, List.getElem?_cons_succ, List.getElem?_cons_zero, getV_val, bind_ok, dO_some, isNon_int, ofO_some, toBK_bl, Bool.false_eq_true, if_false, fIn_dNsT, hs, decide_false, sNext_ap, seqK_next, sRet_ap, eTup_ap, aCons_ap, aNil_ap, eIf_ap, fEq_int, decide_true, if_true, eK_ap, List.length_cons, List.length_nil, Nat.zero_add, Nat.reduceAdd, h2, dFin_ret, ansM]
      · have hg' : ¬ (p : Int) = (goal : Int) := by omega
        simp -implicitDefEqProofs only [b_answer_of, List.replicate, sSeq_ap, sIf_ap, tOr_ap, toB_ap, eUn_ap, eBin_ap, eV_ap, List.getElem?_cons_succ, List.getElem?_cons_zero, getV_val, bind_ok, dO_some, isNon_int, ofO_some, toBK_bl, Bool.false_eq_true, if_false, fIn_dNsT, hs, hg, hg', decide_false, sNext_ap, seqK_next, sRet_ap, eTup_ap, aCons_ap, aNil_ap, eIf_ap, fEq_int, decide_true, if_true, eK_ap, List.length_cons, List.length_nil, Nat.zero_add, Nat.reduceAdd, h2, dFin_ret, ansM]
def ansL (silent : List Nat) (w : List (Option Nat)) (goal n : Nat) : List D := (List.range' 0 n).map fun h => ansM silent goal (posM w goal (h + 1))
theorem answers_gen {wD : D} {silent : List Nat} {goal : Nat} {w : List (Option Nat)} {rw : Rw} (ht : Tells wD w goal) (l0 : silent.length ≤ 6) (n : Nat) (hn : n ≤ 60) :
    d_answers_of [.tup (dNs silent), wD, .int (goal : Int), .int (n : Int)] rw = .ok (.lst (ansL silent w goal n), rw) := by
  unfold d_answers_of
  rw [dDef4]
  have e1 := posts_gen (rw := rw) ht n hn
  have e2 : ∀ xs : List (Option Nat), compL (gN 4) cYes (eCall d_answer_of (aCons (eV 0) (aCons (eV 2) (aCons (eV 4) aNil)))) [.val (.tup (dNs silent)), .val wD, .val (.int (goal : Int)), .val (.int (n : Int)), .no] (xs.map dO) rw = .ok (xs.map (ansM silent goal), rw) := fun xs => compL_map dO (ansM silent goal) xs fun x => ⟨[.val (.tup (dNs silent)), .val wD, .val (.int (goal : Int)), .val (.int (n : Int)), .val (dO x)], rfl, rfl, by
      have ea := answer_ok (goal := goal) (o := x) (rw := rw) l0
      simp -implicitDefEqProofs only [eCall_ap, aCons_ap, aNil_ap, eV_ap, List.getElem?_cons_succ, List.getElem?_cons_zero, getV_val, bind_ok, ea]⟩
  have e3 := e2 ((List.range' 0 n).map fun h => posM w goal (h + 1))
  have e4 : posL w goal 0 n = ((List.range' 0 n).map fun h => posM w goal (h + 1)).map dO := by rw [List.map_map]; rfl
  have e5 : ansL silent w goal n = ((List.range' 0 n).map fun h => posM w goal (h + 1)).map (ansM silent goal) := by rw [List.map_map]; rfl
  have hl : (ansL silent w goal n).length ≤ sizeLine := sl_big (by simp [ansL]; omega)
  rw [e4] at e1
  rw [← e5] at e3
  unfold b_answers_of
  simp -implicitDefEqProofs only [List.replicate, sRet_ap, eComp_ap, aItems_ap, eCall_ap, aCons_ap, aNil_ap, eV_ap, List.getElem?_cons_succ, List.getElem?_cons_zero, getV_val, bind_ok, e1, itemsOf_lst, ofO_some]
  have hl2 : (((List.range' 0 n).map fun h => posM w goal (h + 1)).map dO).length ≤ sizeLine := sl_big (by simp; omega)
  have hw2 : wipeD [.val (.tup (dNs silent)), .val wD, .val (.int (goal : Int)), .val (.int (n : Int)), .no] [4] = [.val (.tup (dNs silent)), .val wD, .val (.int (goal : Int)), .val (.int (n : Int)), .no] := rfl
  simp -implicitDefEqProofs only [hw2, e3, bind_ok, hl2, if_true, dFin_ret]
theorem answers_of_ok {silent : List Nat} {many goal : Nat} {w : List (Option Nat)} {rw : Rw} (hm : 0 < many) (hw : WayOk many goal w) (l0 : silent.length ≤ 6) (n : Nat) (hn : n ≤ 60) :
    d_answers_of [.tup (dNs silent), dWay w, .int (goal : Int), .int (n : Int)] rw = .ok (.lst (ansL silent w goal n), rw) := answers_gen (tells_way hm hw) l0 n hn
theorem posts_ok {many goal : Nat} {w : List (Option Nat)} {rw : Rw} (hm : 0 < many) (hw : WayOk many goal w) (n : Nat) (hn : n ≤ 60) : d_posts_on [dWay w, .int (goal : Int), .int (n : Int)] rw = .ok (.lst (posL w goal 0 n), rw) := posts_gen (tells_way hm hw) n hn
end HC
end
section
namespace HC
open PySem PySem.Spec L2 HD
/-- what the web answers -/
structure WayAt (W : Web) (goal : Nat) (w : List (Option Nat)) : Prop where
  lo : 1 ≤ goal
  hi : goal < W.many
  at_ : W.ways[goal - 1]? = some w
  ok : WayOk W.many goal w
theorem WebOk.wayAt {W : Web} (h : WebOk W) {goal : Nat} (h1 : 1 ≤ goal) (h2 : goal < W.many) : ∃ w, WayAt W goal w := by
  obtain ⟨w, a, b⟩ := h.way goal h1 h2
  exact ⟨w, h1, h2, a, b⟩
theorem WayAt.ix {W : Web} {goal : Nat} {w : List (Option Nat)} (h : WayAt W goal w) : L2.atI (W.ways.map dWay) ((goal : Int) - 1) = some (dWay w) := by
  rw [show (goal : Int) - 1 = ((goal - 1 : Nat) : Int) by have := h.lo; omega, atI_nat_eq, List.getElem?_map, h.at_]; rfl
theorem ix0 (W : Web) : fIx (dWeb W) (.int 0) = some (.int (W.many : Int)) := by simp [dWeb]
theorem ix1 (W : Web) : fIx (dWeb W) (.int 1) = some (.tup (dNs W.silent)) := by simp [dWeb]
theorem ix2 (W : Web) : fIx (dWeb W) (.int 2) = some (.tup (W.ways.map dWay)) := by simp [dWeb]
theorem ansL_len {silent : List Nat} {w : List (Option Nat)} {goal n : Nat} : (ansL silent w goal n).length = n := by simp [ansL]
theorem ansL_get {silent : List Nat} {w : List (Option Nat)} {goal n i : Nat} (h : i < n) : (ansL silent w goal n)[i]? = some (ansM silent goal (posM w goal (i + 1))) := by
  unfold ansL
  rw [List.getElem?_map, List.getElem?_range' h]
  simp
theorem ansL_last {silent : List Nat} {w : List (Option Nat)} {goal n : Nat} : L2.atI (ansL silent w goal (n + 1)) (-1) = some (ansM silent goal (posM w goal (n + 1))) := by
  have e : ansL silent w goal (n + 1) = ansL silent w goal n ++ [ansM silent goal (posM w goal (n + 1))] := by
    unfold ansL
    rw [List.range'_concat, List.map_append]
    simp
  rw [e]
  exact atI_last _ _
theorem steps_to_ok {m : Nat} {rw : Rw} (h : m ≤ 6) : d_steps_to [.int (m : Int)] rw = .ok (.int ((2 * m : Nat) : Int), rw) := by
  unfold d_steps_to
  rw [dDef1]
  have e : fMul (.int 2) (.int (m : Int)) = some (.int ((2 * m : Nat) : Int)) := by
    rw [fMul_int, if_pos ⟨by omega, by omega⟩]
    congr 2
  simp -implicitDefEqProofs only [b_steps_to, List.replicate, sRet_ap, eBin_ap, eK_ap, eV_ap, List.getElem?_cons_zero, getV_val, bind_ok, e, ofO_some, dFin_ret]
theorem posM_stop {w : List (Option Nat)} {goal n : Nat} (h : posM w goal n = none ∨ posM w goal n = some goal) : ∀ k, posM w goal (n + k) = posM w goal n
  | 0 => rfl
  | k + 1 => by
    have ih := posM_stop h k
    show hopM w goal (posM w goal (n + k)) = _
    rw [ih]
    rcases h with h | h
    · rw [h]; rfl
    · rw [h]; unfold hopM; simp
def lawAskC : EM Bool := (tAnd' (toB (eBin fGt (eV 2) (eK (.int 0)))) (tAnd' (toB (eUn notNonD (eV 6))) (toB (eBin fNe (eV 6) (eV 1)))))
def lawAskB : SM := (sSeq (sSet 6 (eBin fIx (eBin fIx (eV 5) (eBin fSub (eV 1) (eK (.int 1)))) (eV 6))) (sSet 2 (eBin fSub (eV 2) (eK (.int 1)))))
/-- what a way, told as a tuple, tells of the next post -/
def TellsU (us : List D) (w : List (Option Nat)) (goal : Nat) : Prop := ∀ n p, posM w goal n = some p → p ≠ goal → L2.atI us (p : Int) = some (dO ((w[p]?).getD none))
theorem la_while {us ways : List D} {goal : Nat} {w : List (Option Nat)} {rw : Rw} (ig : L2.atI ways ((goal : Int) - 1) = some (.tup us)) (ht : TellsU us w goal) (x0 x3 x4 : Sl) (n : Nat) : ∀ (k m fuel : Nat), m + k = n → k < fuel →
    ∃ x2', sWhile lawAskC lawAskB fuel [x0, .val (.int (goal : Int)), .val (.int (k : Int)), x3, x4, .val (.tup ways), .val (dO (posM w goal m))] rw = .ok (.next, [x0, .val (.int (goal : Int)), x2', x3, x4, .val (.tup ways), .val (dO (posM w goal n))], rw)
  | 0, m, fuel, hn, hf => by
    obtain ⟨f, rfl⟩ : ∃ f, fuel = f + 1 := ⟨fuel - 1, by omega⟩
    have : m = n := by omega
    subst this
    refine ⟨.val (.int ((0 : Nat) : Int)), ?_⟩
    unfold sWhile
    have hgt : fGt (.int ((0 : Nat) : Int)) (.int 0) = some (.bl false) := rfl
    simp -implicitDefEqProofs only [lawAskC, tAnd_ap, toB_ap, eBin_ap, eV_ap, eK_ap, List.getElem?_cons_succ, List.getElem?_cons_zero, getV_val, bind_ok, hgt, ofO_some, toBK_bl, Bool.false_eq_true, if_false]
  | k + 1, m, fuel, hn, hf => by
    obtain ⟨f, rfl⟩ : ∃ f, fuel = f + 1 := ⟨fuel - 1, by omega⟩
    unfold sWhile
    have hgt : fGt (.int ((k + 1 : Nat) : Int)) (.int 0) = some (.bl true) := by
      unfold fGt
      rw [fCmp_int]
      simp
    cases q : posM w goal m with
    | none =>
      have := posM_stop (.inl q) (k + 1)
      rw [hn] at this
      rw [this, q]
      refine ⟨.val (.int ((k + 1 : Nat) : Int)), ?_⟩
      simp -implicitDefEqProofs only [lawAskC, tAnd_ap, toB_ap, eBin_ap, eUn_ap, eV_ap, eK_ap, List.getElem?_cons_succ, List.getElem?_cons_zero, getV_val, bind_ok, hgt, ofO_some, toBK_bl, Bool.false_eq_true, if_false, if_true, dO_none, notNon_non]
    | some p =>
      by_cases hg : p = goal
      · have := posM_stop (.inr (by rw [q, hg])) (k + 1)
        rw [hn] at this
        rw [this, q]
        refine ⟨.val (.int ((k + 1 : Nat) : Int)), ?_⟩
        have hg' : (p : Int) = (goal : Int) := by omega
        simp -implicitDefEqProofs only [lawAskC, tAnd_ap, toB_ap, eBin_ap, eUn_ap, eV_ap, eK_ap, List.getElem?_cons_succ, List.getElem?_cons_zero, getV_val, bind_ok, hgt, ofO_some, toBK_bl, Bool.false_eq_true, if_false, if_true, dO_some, notNon_int, fNe_int, hg', decide_true, Bool.not_true]
      · have e : posM w goal (m + 1) = (w[p]?).getD none := by show hopM w goal (posM w goal m) = _; rw [q]; unfold hopM; simp [hg]
        obtain ⟨x2', ih⟩ := la_while ig ht x0 x3 x4 n k (m + 1) f (by omega) (by omega)
        rw [e] at ih
        refine ⟨x2', ?_⟩
        have ex := ht m p q hg
        have hg' : ¬ (p : Int) = (goal : Int) := by omega
        have es : fSub (.int ((k + 1 : Nat) : Int)) (.int 1) = some (.int (k : Int)) := by
          rw [fSub_int]
          congr 2
          omega
        have hc : lawAskC [x0, .val (.int (goal : Int)), .val (.int ((k + 1 : Nat) : Int)), x3, x4, .val (.tup ways), .val (dO (some p))] rw = .ok (true, rw) := by
          simp -implicitDefEqProofs only [lawAskC, tAnd_ap, toB_ap, eBin_ap, eUn_ap, eV_ap, eK_ap, List.getElem?_cons_succ, List.getElem?_cons_zero, getV_val, bind_ok, hgt, ofO_some, toBK_bl, if_true, dO_some, notNon_int, fNe_int, hg', decide_false, Bool.not_false]
        have hb : lawAskB [x0, .val (.int (goal : Int)), .val (.int ((k + 1 : Nat) : Int)), x3, x4, .val (.tup ways), .val (dO (some p))] rw = .ok (.next, [x0, .val (.int (goal : Int)), .val (.int (k : Int)), x3, x4, .val (.tup ways), .val (dO ((w[p]?).getD none))], rw) := by
          generalize (w[p]?).getD none = o at ex
          simp -implicitDefEqProofs only [lawAskB, sSeq_ap, sSet_ap, eBin_ap, eV_ap, eK_ap, List.getElem?_cons_succ, List.getElem?_cons_zero, getV_val, bind_ok, fSub_int, ofO_some, fIx_tup, ig, dO_some, ex, List.set_cons_succ, List.set_cons_zero, seqK_next]
          rw [fSub_int] at es
          rw [Option.some.inj es]
        rw [hc]
        simp only [bind_ok, if_true]
        rw [hb]
        exact ih
theorem nothing_eq : nothingD = .tup [.str "nothing"] := rfl
theorem law_asked_gen {mD : D} {S : List Nat} {us ways : List D} {goal n : Nat} {w : List (Option Nat)} {rw : Rw} (ig : L2.atI ways ((goal : Int) - 1) = some (.tup us)) (ht : TellsU us w goal) (h2 : n ≤ 60) :
    d__law_asked [.tup [mD, .tup (dNs S), .tup ways], .int (goal : Int), .int (n : Int)] rw = .ok (ansM S goal (posM w goal n), rw) := by
  unfold d__law_asked
  rw [dDef3]
  obtain ⟨x2', e⟩ := la_while (rw := rw) ig ht (.val (.tup [mD, .tup (dNs S), .tup ways])) (.val mD) (.val (.tup (dNs S))) n n 0 1000 (by omega) (by omega)
  have e0 : dO (posM w goal 0) = .int 0 := rfl
  rw [e0] at e
  have eb : b__law_asked = sSeq (sAsg (eV 0) (gT 3 (gsCons (gN 3) (gsCons (gN 4) (gsCons (gN 5) gsNil))))) (sSeq (sSet 6 (eK (.int 0))) (sSeq (sWhile lawAskC lawAskB 1000) (sSeq (sIf (tOr' (toB (eUn isNonD (eV 6))) (toB (eBin (fIn false) (eV 6) (eV 4)))) (sRet (eTup (aCons (eK (.str "nothing")) aNil))) sNext) (sRet (eIf (toB (eBin fEq (eV 6) (eV 1))) (eTup (aCons (eK (.str "there")) (aCons (eV 1) aNil))) (eTup (aCons (eK (.str "gone")) (aCons (eV 6) aNil)))))))) := rfl
  have h1l : 1 ≤ sizeLine := sl_big (by decide)
  have h2l : 2 ≤ sizeLine := sl_big (by decide)
  have ha : sAsg (eV 0) (gT 3 (gsCons (gN 3) (gsCons (gN 4) (gsCons (gN 5) gsNil)))) [.val (.tup [mD, .tup (dNs S), .tup ways]), .val (.int (goal : Int)), .val (.int (n : Int)), .no, .no, .no, .no] rw = .ok (.next, [.val (.tup [mD, .tup (dNs S), .tup ways]), .val (.int (goal : Int)), .val (.int (n : Int)), .val mD, .val (.tup (dNs S)), .val (.tup ways), .no], rw) := rfl
  rw [eb]
  simp -implicitDefEqProofs only [List.replicate]
  rw [sSeq_ap, ha]
  simp -implicitDefEqProofs only [bind_ok, seqK_next]
  rw [sSeq_ap, sSet_ap, eK_ap]
  simp -implicitDefEqProofs only [bind_ok, seqK_next, List.set_cons_succ, List.set_cons_zero]
  rw [sSeq_ap, e]
  simp -implicitDefEqProofs only [bind_ok, seqK_next]
  cases posM w goal n with
  | none =>
    simp -implicitDefEqProofs only [sSeq_ap, sIf_ap, tOr_ap, toB_ap, eUn_ap, eV_ap, List.getElem?_cons_succ, List.getElem?_cons_zero, getV_val, bind_ok, dO_none, isNon_non, ofO_some, toBK_bl, if_true, sRet_ap, eTup_ap, aCons_ap, aNil_ap, eK_ap, List.length_cons, List.length_nil, Nat.zero_add, h1l, seqK_ret, dFin_ret, ansM, nothing_eq]
  | some p =>
    by_cases hs : p ∈ S
    · simp -implicitDefEqProofs only [sSeq_ap, sIf_ap, tOr_ap, toB_ap, eUn_ap, eBin_ap, eV_ap, List.getElem?_cons_succ, List.getElem?_cons_zero, getV_val, bind_ok, dO_some, isNon_int, Bool.false_eq_true, if_false, fIn_dNsT, hs, decide_true, ofO_some, toBK_bl, if_true, sRet_ap, eTup_ap, aCons_ap, aNil_ap, eK_ap, List.length_cons, List.length_nil, Nat.zero_add, h1l, seqK_ret, dFin_ret, ansM, nothing_eq]
    · by_cases hg : p = goal
      · subst hg
        simp -implicitDefEqProofs only [sSeq_ap, sIf_ap, tOr_ap, toB_ap, eUn_ap, eBin_ap, eV_ap, List.getElem?_cons_succ, List.getElem?_cons_zero, getV_val, bind_ok, dO_some, isNon_int, Bool.false_eq_true, if_false, fIn_dNsT, hs, decide_false, ofO_some, toBK_bl, sNext_ap, seqK_next, sRet_ap, eIf_ap, fEq_int, decide_true, if_true, eTup_ap, aCons_ap, aNil_ap, eK_ap, List.length_cons, List.length_nil, Nat.zero_add, Nat.reduceAdd, h2l, dFin_ret, ansM]
      · have hg' : ¬ (p : Int) = (goal : Int) := by omega
        simp -implicitDefEqProofs only [sSeq_ap, sIf_ap, tOr_ap, toB_ap, eUn_ap, eBin_ap, eV_ap, List.getElem?_cons_succ, List.getElem?_cons_zero, getV_val, bind_ok, dO_some, isNon_int, Bool.false_eq_true, if_false, fIn_dNsT, hs, hg, hg', decide_false, ofO_some, toBK_bl, sNext_ap, seqK_next, sRet_ap, eIf_ap, fEq_int, decide_true, if_true, eTup_ap, aCons_ap, aNil_ap, eK_ap, List.length_cons, List.length_nil, Nat.zero_add, Nat.reduceAdd, h2l, dFin_ret, ansM]
theorem tellsU_way {many goal : Nat} {w : List (Option Nat)} (hm : 0 < many) (hw : WayOk many goal w) : TellsU (w.map dO) w goal := fun n p q _ => by
  have hp := posM_lt hm hw n p q
  rw [atI_nat_eq, List.getElem?_map, way_get hw hp]; rfl
theorem law_asked_ok {W : Web} {goal n : Nat} {w : List (Option Nat)} {rw : Rw} (h : WebOk W) (g : WayAt W goal w) (h2 : n ≤ 60) :
    d__law_asked [dWeb W, .int (goal : Int), .int (n : Int)] rw = .ok (ansM W.silent goal (posM w goal n), rw) :=
  law_asked_gen (mD := .int (W.many : Int)) (ways := W.ways.map dWay) g.ix (tellsU_way (by have := h.lo; omega) g.ok) h2
end HC
end
section
namespace HC
open PySem PySem.Spec L2 HD
theorem compL_mapM {α : Type} {tg : D → Dl → Option Dl} {c : EM Bool} {e : EM D} {lw : Dl} {rw : Rw} (f : α → D) (h : α → D) : ∀ xs : List α, (∀ x ∈ xs, ∃ l1, tg (f x) lw = some l1 ∧ c l1 rw = .ok (true, rw) ∧ e l1 rw = .ok (h x, rw)) → compL tg c e lw (xs.map f) rw = .ok (xs.map h, rw)
  | [], _ => rfl
  | x :: xs, hh => by
    obtain ⟨l1, h1, h2, h3⟩ := hh x (by simp)
    have ih := compL_mapM f h xs fun y hy => hh y (List.mem_cons_of_mem _ hy)
    rw [List.map_cons, List.map_cons]
    unfold compL
    rw [h1]
    simp only [h2, h3, noX_ok, bind_ok, if_true, ih]
theorem ansL_one {silent : List Nat} {w : List (Option Nat)} {goal n : Nat} : (List.range' 1 n).map (fun k => ansM silent goal (posM w goal k)) = ansL silent w goal n := by
  apply List.ext_getElem?
  intro i
  unfold ansL
  rw [List.getElem?_map, List.getElem?_map]
  by_cases hi : i < n
  · rw [List.getElem?_range' hi, List.getElem?_range' hi]
    simp [Nat.add_comm]
  · rw [List.getElem?_eq_none (by simp; omega), List.getElem?_eq_none (by simp; omega)]; rfl
theorem dNs_map (xs : List Nat) : dNs xs = xs.map fun (n : Nat) => D.int (n : Int) := rfl
theorem law_answers_ok {W : Web} {goal n : Nat} {w : List (Option Nat)} {rw : Rw} (h : WebOk W) (g : WayAt W goal w) (h2 : n ≤ 60) :
    d__law_answers [dWeb W, .int (goal : Int), .int (n : Int)] rw = .ok (.lst (ansL W.silent w goal n), rw) := by
  unfold d__law_answers
  rw [dDef3]
  have hr : rng2 [.int 1, .int ((n : Int) + 1)] = some ((List.range' 1 n).map fun (n : Nat) => D.int (n : Int)) := by
    have z := rng2_of' (i := 1) (j := (n : Int) + 1) (a := 1) (b := n + 1) rfl (by omega) (by decide) (by omega)
    rw [z, ← dNs_map, rangeD_dNs, Nat.add_sub_cancel]
  have e2 := compL_mapM (tg := gN 3) (c := cYes) (e := eCall d__law_asked (aCons (eV 0) (aCons (eV 1) (aCons (eV 3) aNil)))) (lw := [.val (dWeb W), .val (.int (goal : Int)), .val (.int (n : Int)), .no]) (rw := rw) (fun (n : Nat) => D.int (n : Int)) (fun k => ansM W.silent goal (posM w goal k)) (List.range' 1 n) fun k hk => ⟨[.val (dWeb W), .val (.int (goal : Int)), .val (.int (n : Int)), .val (.int (k : Int))], rfl, rfl, by
    have hk2 := List.mem_range'_1.mp hk
    have ea := law_asked_ok (rw := rw) (n := k) h g (by omega)
    simp -implicitDefEqProofs only [eCall_ap, aCons_ap, aNil_ap, eV_ap, List.getElem?_cons_succ, List.getElem?_cons_zero, getV_val, bind_ok, ea]⟩
  rw [ansL_one] at e2
  have hl2 : ((List.range' 1 n).map fun (n : Nat) => D.int (n : Int)).length ≤ sizeLine := sl_big (by simp; omega)
  have hw2 : wipeD [.val (dWeb W), .val (.int (goal : Int)), .val (.int (n : Int)), .no] [3] = [.val (dWeb W), .val (.int (goal : Int)), .val (.int (n : Int)), .no] := rfl
  unfold b__law_answers
  simp -implicitDefEqProofs only [List.replicate, sRet_ap, eComp_ap, aRng_ap, aCons_ap, aNil_ap, eK_ap, eBin_ap, eV_ap, List.getElem?_cons_succ, List.getElem?_cons_zero, getV_val, bind_ok, fAdd_int, ofO_some, hr, hl2, if_true, hw2, e2, dFin_ret]
theorem fit_ansM (n : Nat) (silent : List Nat) (goal : Nat) (o : Option Nat) : fit (n + 1) (ansM silent goal o) = true := by
  have h1 : fit (n + 1) nothingD = true := by
    unfold nothingD
    rw [fit_tup]
    simp only [List.all_cons, List.all_nil, fit_str]
    decide +kernel
  cases o with
  | none => exact h1
  | some p =>
    unfold ansM
    simp only []
    split
    · exact h1
    · rw [fit_tup]
      simp only [List.all_cons, List.all_nil, fit_str, fit_int]
      split <;> decide +kernel
theorem fit_ansL (n : Nat) (silent : List Nat) (w : List (Option Nat)) (goal k : Nat) : fit (n + 2) (.lst (ansL silent w goal k)) = true := by
  rw [fit_lst, List.all_eq_true]
  intro x hx
  unfold ansL at hx
  obtain ⟨i, _, rfl⟩ := List.mem_map.mp hx
  exact fit_ansM _ _ _ _
theorem len_ansM (n : Nat) (silent : List Nat) (goal : Nat) (o : Option Nat) : lenOk (n + 2) (ansM silent goal o) = true := by
  have h1 : lenOk (n + 2) nothingD = true := by
    unfold nothingD lenOk
    cases n <;> rfl
  cases o with
  | none => exact h1
  | some p =>
    unfold ansM
    simp only []
    split
    · exact h1
    · unfold lenOk
      simp only [List.all_cons, List.all_nil]
      cases n <;> rfl
theorem len_ansL (silent : List Nat) (w : List (Option Nat)) (goal k : Nat) (h : k ≤ 100) : lenOk 5 (.lst (ansL silent w goal k)) = true := by
  unfold lenOk
  rw [Bool.and_eq_true]
  refine ⟨decide_eq_true (by rw [ansL_len]; omega), ?_⟩
  rw [List.all_eq_true]
  intro x hx
  unfold ansL at hx
  obtain ⟨i, _, rfl⟩ := List.mem_map.mp hx
  exact len_ansM 2 _ _ _
theorem alike_ans {silent : List Nat} {w : List (Option Nat)} {goal k : Nat} {rw : Rw} (h : k ≤ 100) : d__law_alike [.lst (ansL silent w goal k), .lst (ansL silent w goal k)] rw = .ok (.bl true, rw) :=
  alike_ok (fit_ansL 3 _ _ _ _) (len_ansL _ _ _ _ h)
@[simp] theorem pNone_ap (l : Dl) (rw : Rw) : pNone l rw = .ok (none, rw) := rfl
@[simp] theorem pSome_ap (g : EM D) (l : Dl) (rw : Rw) : pSome g l rw = (g l rw).bind fun p => match p.1 with
  | .int i => .ok (some i, p.2)
  | _ => .stuck := rfl
@[simp] theorem eSl_ap (g : EM D) (lo hi : EM (Option Int)) (l : Dl) (rw : Rw) : eSl g lo hi l rw = (g l rw).bind fun p => (lo l p.2).bind fun q => (hi l q.2).bind fun r => ofO (fSl p.1 q.1 r.1) r.2 := rfl
theorem sIx_nat {n d i : Nat} (h : i ≤ n) : HT.sIx n d (some (i : Int)) = i := by
  rw [HT.sIx_nat]
  omega
theorem cut_to {xs : List D} {k : Nat} (h : k ≤ xs.length) : cutD xs none (some (k : Int)) = xs.take k := by
  unfold cutD
  rw [sIx_nat h]
  simp [HT.sIx]
theorem cut_from {xs : List D} {k : Nat} (h : k ≤ xs.length) : cutD xs (some (k : Int)) none = xs.drop k := by
  unfold cutD
  rw [sIx_nat h]
  show List.take (xs.length - k) (List.drop k xs) = _
  exact List.take_of_length_le (by simp)
theorem ansL_take {silent : List Nat} {w : List (Option Nat)} {goal n k : Nat} (h : k ≤ n) : (ansL silent w goal n).take k = ansL silent w goal k := by
  apply List.ext_getElem?
  intro i
  rw [List.getElem?_take]
  by_cases hi : i < k
  · rw [if_pos hi, ansL_get (by omega), ansL_get hi]
  · rw [if_neg hi, List.getElem?_eq_none (by rw [ansL_len]; omega)]
end HC
end
section
/-! Two trails that agree for twice as many hops as posts agree for ever. -/
namespace HC
open PySem PySem.Spec L2 HD
theorem per_two {α : Type} (a b : Nat → α) (μ p q N : Nat) (ha : ∀ i, μ ≤ i → a (i + p) = a i) (hb : ∀ i, μ ≤ i → b (i + q) = b i) (hp : 1 ≤ p) (hq : 1 ≤ q) (hN : μ + p + q ≤ N) (h : ∀ i, i < N → a i = b i) : ∀ i, a i = b i := by
  intro i
  induction i using Nat.strongRecOn with
  | _ i ih =>
    by_cases hi : i < N
    · exact h i hi
    · have e1 : a i = a (i - p) := by have := ha (i - p) (by omega); rwa [show i - p + p = i by omega] at this
      have e2 : b (i - p) = b (i - p - q) := by have := hb (i - p - q) (by omega); rwa [show i - p - q + q = i - p by omega] at this
      have e3 : a (i - q) = a (i - p - q) := by have := ha (i - p - q) (by omega); rwa [show i - p - q + p = i - q by omega] at this
      have e4 : b i = b (i - q) := by have := hb (i - q) (by omega); rwa [show i - q + q = i by omega] at this
      rw [e1, ih (i - p) (by omega), e2, ← ih (i - p - q) (by omega), ← e3, ih (i - q) (by omega), ← e4]
theorem posM_add {w : List (Option Nat)} {goal i j : Nat} (h : posM w goal i = posM w goal j) : ∀ k, posM w goal (i + k) = posM w goal (j + k)
  | 0 => h
  | k + 1 => by
    have ih := posM_add h k
    show hopM w goal (posM w goal (i + k)) = hopM w goal (posM w goal (j + k))
    rw [ih]
theorem not_nodup_ex {α : Type} [DecidableEq α] : ∀ l : List α, ¬ l.Nodup → ∃ i j, i < j ∧ j < l.length ∧ l[i]? = l[j]?
  | [], h => (h List.nodup_nil).elim
  | x :: xs, h => by
    by_cases hx : x ∈ xs
    · obtain ⟨j, hj, e⟩ := List.getElem_of_mem hx
      exact ⟨0, j + 1, by omega, by simp; exact hj, by simp [hj, e]⟩
    · have h2 : ¬ xs.Nodup := fun h2 => h (List.nodup_cons.mpr ⟨hx, h2⟩)
      obtain ⟨i, j, h3, h4, h5⟩ := not_nodup_ex xs h2
      exact ⟨i + 1, j + 1, by omega, by simp; exact h4, by simpa using h5⟩
/-- a trail comes round, or ends, soon -/
theorem posM_round {many goal : Nat} {w : List (Option Nat)} (hm : 0 < many) (hg : goal < many) (hw : WayOk many goal w) : ∃ μ p, 1 ≤ p ∧ μ + p ≤ many ∧ ∀ i, μ ≤ i → posM w goal (i + p) = posM w goal i := by
  by_cases hs : ∃ i, i < many ∧ (posM w goal i = none ∨ posM w goal i = some goal)
  · obtain ⟨i, hi, h⟩ := hs
    refine ⟨i, 1, by omega, by omega, fun j hj => ?_⟩
    have h1 := posM_stop h (j - i)
    have h2 := posM_stop h (j + 1 - i)
    rw [show i + (j - i) = j by omega] at h1
    rw [show i + (j + 1 - i) = j + 1 by omega] at h2
    rw [h1, h2]
  · have hv : ∀ i, i < many → ∃ p, posM w goal i = some p ∧ p < many ∧ p ≠ goal := fun i hi => by
      cases q : posM w goal i with
      | none => exact (hs ⟨i, hi, .inl q⟩).elim
      | some p => exact ⟨p, rfl, posM_lt hm hw i p q, fun e => hs ⟨i, hi, .inr (by rw [q, e])⟩⟩
    let L : List Nat := (List.range many).map fun i => (posM w goal i).getD 0
    have hL : ∀ i, i < many → ∃ p, L[i]? = some p ∧ posM w goal i = some p := fun i hi => by
      obtain ⟨p, h1, _⟩ := hv i hi
      refine ⟨p, ?_, h1⟩
      show ((List.range many).map fun i => (posM w goal i).getD 0)[i]? = some p
      rw [List.getElem?_map, List.getElem?_range hi]
      simp [h1]
    have hlen : L.length = many := by simp [L]
    have hnd : ¬ L.Nodup := fun hn => by
      have h1 : (goal :: L).Nodup := by
        refine List.nodup_cons.mpr ⟨fun hm => ?_, hn⟩
        obtain ⟨i, hi, e⟩ := List.mem_map.mp hm
        obtain ⟨p, h1, h2, h3⟩ := hv i (List.mem_range.mp hi)
        rw [h1] at e
        exact h3 e
      have h2 := nodup_lt_len (n := many) h1 fun p hp => by
        rcases List.mem_cons.mp hp with rfl | hp
        · exact hg
        · obtain ⟨i, hi, e⟩ := List.mem_map.mp hp
          obtain ⟨p', h1, h2, h3⟩ := hv i (List.mem_range.mp hi)
          rw [h1] at e
          simp at e
          omega
      simp [hlen] at h2
      omega
    obtain ⟨i, j, hij, hj, e⟩ := not_nodup_ex L hnd
    rw [hlen] at hj
    obtain ⟨p, h1, h2⟩ := hL i (by omega)
    obtain ⟨p', h3, h4⟩ := hL j hj
    rw [h1, h3] at e
    cases e
    refine ⟨i, j - i, by omega, by omega, fun k hk => ?_⟩
    have := posM_add (h4.trans h2.symm) (k - i)
    rw [show j + (k - i) = k + (j - i) by omega, show i + (k - i) = k by omega] at this
    exact this
/-- two webs' answers of one goal -/
theorem agree_all {many goal : Nat} {w v : List (Option Nat)} {S T : List Nat} (hm : 0 < many) (h1 : 1 ≤ goal) (hg : goal < many) (hw : WayOk many goal w) (hv : WayOk many goal v) (hS : 0 ∉ S) (hT : 0 ∉ T)
    (h : ∀ i, 1 ≤ i → i ≤ 2 * many → ansM S goal (posM w goal i) = ansM T goal (posM v goal i)) : ∀ i, ansM S goal (posM w goal i) = ansM T goal (posM v goal i) := by
  obtain ⟨μ, p, p1, p2, p3⟩ := posM_round hm hg hw
  obtain ⟨ν, q, q1, q2, q3⟩ := posM_round hm hg hv
  refine per_two (fun i => ansM S goal (posM w goal i)) (fun i => ansM T goal (posM v goal i)) (max μ ν) p q (2 * many) (fun i hi => ?_) (fun i hi => ?_) p1 q1 ?_ fun i hi => ?_
  · show ansM S goal _ = ansM S goal _
    rw [p3 i (by omega)]
  · show ansM T goal _ = ansM T goal _
    rw [q3 i (by omega)]
  · omega
  · by_cases h0 : i = 0
    · subst h0
      show ansM S goal (some 0) = ansM T goal (some 0)
      unfold ansM
      simp only [hS, hT, if_false]
    · exact h i (by omega) (by omega)
end HC
end
section
namespace HC
open PySem PySem.Spec L2 HD
theorem compL_nat {tg : D → Dl → Option Dl} {c : EM Bool} {e : EM D} {lw : Dl} {rw : Rw} (b : Nat → Bool) : ∀ xs : List Nat, (∀ x ∈ xs, ∃ l1, tg (.int (x : Int)) lw = some l1 ∧ c l1 rw = .ok (b x, rw) ∧ e l1 rw = .ok (.int (x : Int), rw)) → compL tg c e lw (dNs xs) rw = .ok (dNs (xs.filter b), rw)
  | [], _ => rfl
  | x :: xs, hh => by
    obtain ⟨l1, h1, h2, h3⟩ := hh x (by simp)
    have ih := compL_nat b xs fun y hy => hh y (List.mem_cons_of_mem _ hy)
    show compL tg c e lw (.int (x : Int) :: dNs xs) rw = _
    unfold compL
    rw [h1]
    cases q : b x with
    | true =>
      rw [List.filter_cons, if_pos q]
      simp only [h2, h3, q, noX_ok, bind_ok, if_true, ih]
      rfl
    | false =>
      rw [List.filter_cons, if_neg (by rw [q]; simp)]
      simp only [h2, q, noX_ok, bind_ok, Bool.false_eq_true, if_false, ih]
def oth (n i : Nat) : List Nat := (List.range' 0 n).filter fun j => !decide (j = i)
theorem oth_mem {n i j : Nat} (h : j ∈ oth n i) : j < n ∧ j ≠ i := by
  unfold oth at h
  rw [List.mem_filter] at h
  have := List.mem_range'_1.mp h.1
  have h2 := h.2
  simp at h2
  omega
theorem oth_len : ∀ n i : Nat, i < n → (oth n i).length = n - 1 := by
  intro n i hi
  have h : ∀ n, (oth n i).length + (if i < n then 1 else 0) = n := by
    intro n
    induction n with
    | zero => rfl
    | succ n ih =>
      unfold oth at ih ⊢
      rw [List.range'_concat, List.filter_append, List.length_append]
      by_cases e : n = i
      · subst e
        simp at ih ⊢
        omega
      · have : ((List.filter (fun j => !decide (j = i)) [0 + 1 * n])).length = 1 := by simp [e]
        rw [this]
        split at ih <;> rename_i h1 <;> split <;> omega
  have := h n
  rw [if_pos hi] at this
  omega
theorem fAdd_tup (xs ys : List D) (h : xs.length + ys.length ≤ 100000) : fAdd (.tup xs) (.tup ys) = some (.tup (xs ++ ys)) := by
  have : xs.length + ys.length ≤ sizeLine := sl_big h
  simp [fAdd, this]
theorem fAdd_lst (xs ys : List D) (h : xs.length + ys.length ≤ 100000) : fAdd (.lst xs) (.lst ys) = some (.lst (xs ++ ys)) := by
  have : xs.length + ys.length ≤ sizeLine := sl_big h
  simp [fAdd, this]
theorem fSl_tup (xs : List D) (lo hi : Option Int) : fSl (.tup xs) lo hi = some (.tup (cutD xs lo hi)) := rfl
theorem fSl_lst (xs : List D) (lo hi : Option Int) : fSl (.lst xs) lo hi = some (.lst (cutD xs lo hi)) := rfl
theorem splice {α : Type} (f : α → D) (xs : List α) (k : Nat) (o : α) (h : k < xs.length) : cutD (xs.map f) none (some (k : Int)) ++ [f o] ++ cutD (xs.map f) (some ((k : Int) + 1)) none = (xs.set k o).map f := by
  rw [cut_to (by simp; omega), show (k : Int) + 1 = ((k + 1 : Nat) : Int) by omega, cut_from (by simp; omega), List.set_eq_take_append_cons_drop, if_pos h, List.map_append, List.map_cons, List.map_take, List.map_drop, List.append_assoc]
  rfl
theorem cutD_len (xs : List D) (lo hi : Option Int) : (cutD xs lo hi).length ≤ xs.length := by
  unfold cutD
  rw [List.length_take, List.length_drop]
  omega
theorem way_set {many goal p : Nat} {w : List (Option Nat)} {o : Option Nat} (hw : WayOk many goal w) (hp : p ≠ goal) (ho : ∀ v, o = some v → v < many ∧ v ≠ p) : WayOk many goal (w.set p o) := by
  refine ⟨by rw [List.length_set]; exact hw.len, ?_, fun i v h => ?_⟩
  · rw [List.getElem?_set_ne hp]; exact hw.at_
  · by_cases e : p = i
    · subst e
      rw [List.getElem?_set] at h
      simp at h
      exact ho v h.2
    · rw [List.getElem?_set_ne e] at h
      exact hw.go i v h
theorem web_set {W : Web} {k : Nat} {w : List (Option Nat)} (h : WebOk W) (hk : k < W.many - 1) (hw : WayOk W.many (k + 1) w) : WebOk ⟨W.many, W.silent, W.ways.set k w⟩ := by
  refine ⟨h.lo, h.hi, h.sort, h.sil, by show (W.ways.set k w).length = _; rw [List.length_set]; exact h.len, fun g h1 h2 => ?_⟩
  have h2 : g < W.many := h2
  show ∃ w', (W.ways.set k w)[g - 1]? = some w' ∧ _
  by_cases e : k = g - 1
  · subst e
    rw [List.getElem?_set]
    refine ⟨w, ?_, ?_⟩
    · have := h.len
      simp
      omega
    · rwa [show g - 1 + 1 = g by omega] at hw
  · rw [List.getElem?_set_ne e]
    exact h.way g h1 h2
end HC
end
section
/-! Law 1, plain: a web told otherwise. -/
namespace K01
open PySem PySem.Spec L2 HD HC

/-- a web of any sort, as it is handed -/
structure Ow where
  m : Int
  S : List Int
  ws : List (List (Option Int))
def dZ : Option Int → D
  | none => .non
  | some i => .int i
@[simp] theorem dZ_none : dZ none = .non := rfl
@[simp] theorem dZ_some (i : Int) : dZ (some i) = .int i := rfl
def dIs (S : List Int) : List D := S.map D.int
def dWz (w : List (Option Int)) : D := .tup (w.map dZ)
def dOw (O : Ow) : D := .tup [.int O.m, .tup (dIs O.S), .tup (O.ws.map dWz)]
structure OwB (n s : Nat) (O : Ow) : Prop where
  lo : -1 ≤ O.m
  hi : O.m ≤ 106
  S0 : O.S.length ≤ n
  S1 : 2 ≤ O.m → O.m ≤ 6 → O.S.length ≤ s
  W0 : O.ws.length ≤ n
  W1 : ∀ w ∈ O.ws, w.length ≤ n
theorem dIs_len (S : List Int) : (dIs S).length = S.length := by simp [dIs]
theorem dIs_app (S T : List Int) : dIs S ++ dIs T = dIs (S ++ T) := by simp [dIs]
/-- an item of a list -/
theorem pick {α : Type} {xs : List α} {t : Int} (h0 : 0 ≤ t) (h1 : t < (xs.length : Nat)) : ∃ x, L2.atI xs t = some x ∧ x ∈ xs := by
  obtain ⟨j, rfl⟩ : ∃ j : Nat, t = (j : Int) := ⟨t.toNat, by omega⟩
  have hj : j < xs.length := by omega
  exact ⟨xs[j], atI_nat (List.getElem?_eq_getElem hj), List.getElem_mem hj⟩
/-- a slice, of any list -/
def cutG {α : Type} (xs : List α) (lo hi : Option Int) : List α := (xs.drop (HT.sIx xs.length 0 lo)).take (HT.sIx xs.length xs.length hi - HT.sIx xs.length 0 lo)
theorem cutG_map {α : Type} (f : α → D) (xs : List α) (lo hi : Option Int) : cutD (xs.map f) lo hi = (cutG xs lo hi).map f := by
  unfold cutD cutG
  rw [List.length_map, List.map_take, List.map_drop]
theorem cutG_len {α : Type} (xs : List α) (lo hi : Option Int) : (cutG xs lo hi).length ≤ xs.length := by
  unfold cutG
  rw [List.length_take, List.length_drop]
  omega
theorem cutG_mem {α : Type} {xs : List α} {lo hi : Option Int} {x : α} (h : x ∈ cutG xs lo hi) : x ∈ xs := List.mem_of_mem_drop (List.mem_of_mem_take h)
theorem fMax2_int (i j : Int) : fMax2 [.int i, .int j] = some (.int (if j > i then j else i)) := rfl
theorem eTRg2_ap (g1 g2 : EM D) (l : Dl) (rw : Rw) : eTRg2 g1 g2 l rw = (g1 l rw).bind fun p => (g2 l p.2).bind fun q => match p.1, q.1 with
  | .int i, .int n => if (-1000000 ≤ i ∧ i ≤ 1000000) ∧ -1000000 ≤ n ∧ n ≤ 1000000 then .ok (.tup (rangeD i (n - i).toNat), q.2) else .stuck
  | _, _ => .stuck := rfl
/-- the ints from 1 on, below m -/
def rgI (m : Int) : List Int := (List.range (m - 1).toNat).map fun (i : Nat) => 1 + (i : Int)
theorem rangeD_rgI (m : Int) : rangeD 1 (m - 1).toNat = dIs (rgI m) := by
  unfold rangeD dIs rgI
  rw [List.map_map]
  rfl
theorem rgI_len (m : Int) : (rgI m).length = (m - 1).toNat := by simp [rgI]
/-- what may be told of the silent ones -/
theorem spoilt_ok {n s : Nat} {O : Ow} {rw : Rw} (hv : RV rw) (h : OwB n s O) (hn : n ≤ 1000) : ∃ O' rw', d__law_spoilt [.row, dOw O] rw = .ok (dOw O', rw') ∧ RV rw' ∧ OwB (2 * n + 200) (2 * s + 6) O' := by
  obtain ⟨m, S, ws⟩ := O
  have hlo := h.lo
  have hhi := h.hi
  have hS0 := h.S0
  have hW0 := h.W0
  have hW1 := h.W1
  have hS1 := h.S1
  dsimp only at hlo hhi hS0 hW0 hW1 hS1
  unfold d__law_spoilt b__law_spoilt
  rw [dDef2]
  obtain ⟨t8, rw1, e1, r1, a0, a1⟩ := taken_ok hv (n := 8) (by decide)
  obtain ⟨far, rw2, e2, r2, b0, b1⟩ := taken_ok r1 (n := 100) (by decide)
  have eO : dOw ⟨m, S, ws⟩ = .tup [.int m, .tup (dIs S), .tup (ws.map dWz)] := rfl
  have h3 : 3 ≤ sizeLine := sl_big (by decide)
  simp -implicitDefEqProofs only [eO, List.replicate, sSeq_ap, sSet_ap, sAsg_ap, eV_ap, eCall_ap, aCons_ap, aNil_ap, eK_ap, List.getElem?_cons_succ, List.getElem?_cons_zero, getV_val, bind_ok, gT_ap, List.length_cons, List.length_nil, Nat.zero_add, Nat.reduceAdd, if_true, gsCons_ap, gN_ap, Option.bind_some, gsNil_ap, List.set_cons_succ, List.set_cons_zero, seqK_next, e1, e2, sIf_ap, toB_ap, eBin_ap, fEq_int, ofO_some, toBK_bl]
  have h6 : 6 ≤ sizeLine := sl_big (by decide)
  have h8 : 8 ≤ sizeLine := sl_big (by decide)
  have h5 : 5 ≤ sizeLine := sl_big (by decide)
  have h2 : 2 ≤ sizeLine := sl_big (by decide)
  have h1 : 1 ≤ sizeLine := sl_big (by decide)
  have h0 : 0 ≤ sizeLine := Nat.zero_le _
  by_cases c0 : t8 = 0
  · -- another count
    obtain ⟨t6, rw3, e3, r3, f0, f1⟩ := taken_ok r2 (n := 6) (by decide)
    obtain ⟨x, ex, hx⟩ := pick (xs := [D.int 0, D.int 1, D.int 7, D.int (0 - 1), D.int (7 + far), D.int m]) f0 (by simpa using f1)
    obtain ⟨i, rfl, i1, i2, i3⟩ : ∃ i, x = D.int i ∧ -1 ≤ i ∧ i ≤ 106 ∧ (2 ≤ i → i ≤ 6 → i = m) := by
      simp only [List.mem_cons, List.not_mem_nil, or_false] at hx
      rcases hx with rfl | rfl | rfl | rfl | rfl | rfl <;> exact ⟨_, rfl, by omega, by omega, by omega⟩
    refine ⟨⟨i, S, ws⟩, rw3, ?_, r3, ⟨i1, i2, by dsimp only; omega, fun q1 q2 => ?_, by dsimp only; omega, fun w hw => by have := hW1 w hw; omega⟩⟩
    · simp -implicitDefEqProofs only [eO, List.replicate, sSeq_ap, sSet_ap, sAsg_ap, eV_ap, eCall_ap, aCons_ap, aNil_ap, eK_ap, List.getElem?_cons_succ, List.getElem?_cons_zero, getV_val, bind_ok, List.length_cons, List.length_nil, Nat.zero_add, Nat.reduceAdd, if_true, List.set_cons_succ, List.set_cons_zero, seqK_next, seqK_ret, sIf_ap, toB_ap, eBin_ap, fEq_int, ofO_some, toBK_bl, sRet_ap, eTup_ap, eLst_ap, fSub_int, fAdd_int, fIx_lst, fIx_tup, sNext_ap, Bool.false_eq_true, if_false, decide_true, decide_false, dFin_ret, fCmp_int, eSl_ap, pNone_ap, pSome_ap, fSl_tup, eArgs_ap, fLen_tup, List.length_map, fMax2_int, c0, e3, h6, ex, h3]
      rfl
    · have := i3 q1 q2
      dsimp only at q1 q2 ⊢
      have := hS1 (by omega) (by omega)
      omega
  simp -implicitDefEqProofs only [eO, List.replicate, sSeq_ap, sSet_ap, sAsg_ap, eV_ap, eCall_ap, aCons_ap, aNil_ap, eK_ap, List.getElem?_cons_succ, List.getElem?_cons_zero, getV_val, bind_ok, List.length_cons, List.length_nil, Nat.zero_add, Nat.reduceAdd, if_true, List.set_cons_succ, List.set_cons_zero, seqK_next, seqK_ret, sIf_ap, toB_ap, eBin_ap, fEq_int, ofO_some, toBK_bl, sRet_ap, eTup_ap, eLst_ap, fSub_int, fAdd_int, fIx_lst, fIx_tup, sNext_ap, Bool.false_eq_true, if_false, decide_true, decide_false, dFin_ret, fCmp_int, eSl_ap, pNone_ap, pSome_ap, fSl_tup, eArgs_ap, fLen_tup, List.length_map, fMax2_int, c0]
  by_cases c3 : t8 < 3
  · -- other silent ones
    obtain ⟨t6, rw3, e3, r3, f0, f1⟩ := taken_ok r2 (n := 8) (by decide)
    have er : rangeD 1 (m - 1).toNat = dIs (rgI m) := rangeD_rgI m
    have ec : fAdd (.tup (dIs S)) (.tup (dIs S)) = some (.tup (dIs (S ++ S))) := by rw [fAdd_tup _ _ (by rw [dIs_len]; omega), dIs_app]
    have hr : ((-1000000 : Int) ≤ 1 ∧ (1 : Int) ≤ 1000000) ∧ -1000000 ≤ m ∧ m ≤ 1000000 := ⟨⟨by decide, by decide⟩, by omega, by omega⟩
    obtain ⟨x, ex, hx⟩ := pick (xs := [D.tup [.int 0], D.tup [.int m], D.tup [.int (0 - 1)], D.tup [.int 1, .int 1], D.tup [.int (m - 1), .int 0], D.tup [.int (m + far)], D.tup (dIs (rgI m)), D.tup (dIs (S ++ S))]) f0 (by simpa using f1)
    obtain ⟨T, rfl, i1, i2⟩ : ∃ T, x = D.tup (dIs T) ∧ T.length ≤ 2 * n + 200 ∧ (2 ≤ m → m ≤ 6 → T.length ≤ 2 * s + 6) := by
      simp only [List.mem_cons, List.not_mem_nil, or_false] at hx
      rcases hx with rfl | rfl | rfl | rfl | rfl | rfl | rfl | rfl
      · exact ⟨[0], rfl, by simp <;> omega, by simp <;> omega⟩
      · exact ⟨[m], rfl, by simp <;> omega, by simp <;> omega⟩
      · exact ⟨[0 - 1], rfl, by simp <;> omega, by simp <;> omega⟩
      · exact ⟨[1, 1], rfl, by simp <;> omega, by simp <;> omega⟩
      · exact ⟨[m - 1, 0], rfl, by simp <;> omega, by simp <;> omega⟩
      · exact ⟨[m + far], rfl, by simp <;> omega, by simp <;> omega⟩
      · exact ⟨rgI m, rfl, by rw [rgI_len]; omega, fun _ _ => by rw [rgI_len]; omega⟩
      · refine ⟨S ++ S, rfl, by rw [List.length_append]; omega, fun q1 q2 => ?_⟩
        have := hS1 q1 q2
        rw [List.length_append]; omega
    refine ⟨⟨m, T, ws⟩, rw3, ?_, r3, ⟨hlo, hhi, i1, i2, by dsimp only; omega, fun w hw => by have := hW1 w hw; omega⟩⟩
    simp -implicitDefEqProofs only [eO, List.replicate, sSeq_ap, sSet_ap, sAsg_ap, eV_ap, eCall_ap, aCons_ap, aNil_ap, eK_ap, List.getElem?_cons_succ, List.getElem?_cons_zero, getV_val, bind_ok, List.length_cons, List.length_nil, Nat.zero_add, Nat.reduceAdd, if_true, List.set_cons_succ, List.set_cons_zero, seqK_next, seqK_ret, sIf_ap, toB_ap, eBin_ap, fEq_int, ofO_some, toBK_bl, sRet_ap, eTup_ap, eLst_ap, fSub_int, fAdd_int, fIx_lst, fIx_tup, sNext_ap, Bool.false_eq_true, if_false, decide_true, decide_false, dFin_ret, fCmp_int, eSl_ap, pNone_ap, pSome_ap, fSl_tup, eArgs_ap, fLen_tup, List.length_map, fMax2_int, c3, e3, h1, h2, h8, h3, ex, eTRg2_ap, hr, and_self, er, ec]
    rfl
  simp -implicitDefEqProofs only [eO, List.replicate, sSeq_ap, sSet_ap, sAsg_ap, eV_ap, eCall_ap, aCons_ap, aNil_ap, eK_ap, List.getElem?_cons_succ, List.getElem?_cons_zero, getV_val, bind_ok, List.length_cons, List.length_nil, Nat.zero_add, Nat.reduceAdd, if_true, List.set_cons_succ, List.set_cons_zero, seqK_next, seqK_ret, sIf_ap, toB_ap, eBin_ap, fEq_int, ofO_some, toBK_bl, sRet_ap, eTup_ap, eLst_ap, fSub_int, fAdd_int, fIx_lst, fIx_tup, sNext_ap, Bool.false_eq_true, if_false, decide_true, decide_false, dFin_ret, fCmp_int, eSl_ap, pNone_ap, pSome_ap, fSl_tup, eArgs_ap, fLen_tup, List.length_map, fMax2_int, c3]
  by_cases c4 : t8 = 3
  · -- other ways
    obtain ⟨t6, rw3, e3, r3, f0, f1⟩ := taken_ok r2 (n := 3) (by decide)
    have hc1 := cutG_len ws (some 1) none
    have hc2 := cutG_len ws none (some 1)
    have ec : fAdd (.tup (ws.map dWz)) (.tup ((cutG ws none (some 1)).map dWz)) = some (.tup ((ws ++ cutG ws none (some 1)).map dWz)) := by rw [fAdd_tup _ _ (by simp only [List.length_map]; omega), List.map_append]
    obtain ⟨x, ex, hx⟩ := pick (xs := [D.tup ((cutG ws (some 1) none).map dWz), D.tup ((ws ++ cutG ws none (some 1)).map dWz), D.tup []]) f0 (by simpa using f1)
    obtain ⟨T, rfl, i1, i2⟩ : ∃ T : List (List (Option Int)), x = D.tup (T.map dWz) ∧ T.length ≤ 2 * n + 200 ∧ ∀ w ∈ T, w.length ≤ 2 * n + 200 := by
      simp only [List.mem_cons, List.not_mem_nil, or_false] at hx
      rcases hx with rfl | rfl | rfl
      · exact ⟨_, rfl, by omega, fun w hw => by have := hW1 w (cutG_mem hw); omega⟩
      · refine ⟨_, rfl, by rw [List.length_append]; omega, fun w hw => ?_⟩
        rcases List.mem_append.mp hw with hw | hw
        · have := hW1 w hw; omega
        · have := hW1 w (cutG_mem hw); omega
      · exact ⟨[], rfl, by simp, fun w hw => by simp at hw⟩
    refine ⟨⟨m, S, T⟩, rw3, ?_, r3, ⟨hlo, hhi, by dsimp only; omega, fun q1 q2 => by have := hS1 q1 q2; dsimp only; omega, i1, i2⟩⟩
    simp -implicitDefEqProofs only [eO, List.replicate, sSeq_ap, sSet_ap, sAsg_ap, eV_ap, eCall_ap, aCons_ap, aNil_ap, eK_ap, List.getElem?_cons_succ, List.getElem?_cons_zero, getV_val, bind_ok, List.length_cons, List.length_nil, Nat.zero_add, Nat.reduceAdd, if_true, List.set_cons_succ, List.set_cons_zero, seqK_next, seqK_ret, sIf_ap, toB_ap, eBin_ap, fEq_int, ofO_some, toBK_bl, sRet_ap, eTup_ap, eLst_ap, fSub_int, fAdd_int, fIx_lst, fIx_tup, sNext_ap, Bool.false_eq_true, if_false, decide_true, decide_false, dFin_ret, fCmp_int, eSl_ap, pNone_ap, pSome_ap, fSl_tup, eArgs_ap, fLen_tup, List.length_map, fMax2_int, c4, e3, h0, h3, ex, cutG_map, ec]
    rfl
  simp -implicitDefEqProofs only [eO, List.replicate, sSeq_ap, sSet_ap, sAsg_ap, eV_ap, eCall_ap, aCons_ap, aNil_ap, eK_ap, List.getElem?_cons_succ, List.getElem?_cons_zero, getV_val, bind_ok, List.length_cons, List.length_nil, Nat.zero_add, Nat.reduceAdd, if_true, List.set_cons_succ, List.set_cons_zero, seqK_next, seqK_ret, sIf_ap, toB_ap, eBin_ap, fEq_int, ofO_some, toBK_bl, sRet_ap, eTup_ap, eLst_ap, fSub_int, fAdd_int, fIx_lst, fIx_tup, sNext_ap, Bool.false_eq_true, if_false, decide_true, decide_false, dFin_ret, fCmp_int, eSl_ap, pNone_ap, pSome_ap, fSl_tup, eArgs_ap, fLen_tup, List.length_map, fMax2_int, c4]
  -- one way
  have hmx : ∀ a : Nat, (if (a : Int) > 1 then (a : Int) else 1) = ((max a 1 : Nat) : Int) := fun a => by split <;> omega
  obtain ⟨k, rw3, e3, r3, f0, f1⟩ := taken_ok r2 (n := ((max ws.length 1 : Nat) : Int)) (by omega)
  have ec1 : fAdd (.tup (ws.map dWz)) (.tup [.tup []]) = some (.tup ((ws ++ [[]]).map dWz)) := by rw [fAdd_tup _ _ (by simp only [List.length_map, List.length_cons, List.length_nil]; omega), List.map_append]; rfl
  obtain ⟨x, ex, hx⟩ := pick (xs := (ws ++ [[]]).map dWz) f0 (by simp only [List.length_map, List.length_append, List.length_cons, List.length_nil]; omega)
  obtain ⟨one, rfl, ho⟩ : ∃ one : List (Option Int), x = dWz one ∧ one.length ≤ n := by
    obtain ⟨o, hm, rfl⟩ := List.mem_map.mp hx
    refine ⟨o, rfl, ?_⟩
    rcases List.mem_append.mp hm with hm | hm
    · exact hW1 o hm
    · simp at hm; subst hm; simp
  obtain ⟨p, rw4, e4, r4, g0, g1⟩ := taken_ok r3 (n := ((max one.length 1 : Nat) : Int)) (by omega)
  obtain ⟨t6, rw5, e5, r5, j0, j1⟩ := taken_ok r4 (n := 6) (by decide)
  obtain ⟨y, ey, hy⟩ := pick (xs := [D.int p, D.int m, D.int (0 - 1), D.int (m + far), D.int 0, D.non]) j0 (by simpa using j1)
  obtain ⟨th, rfl⟩ : ∃ th, y = dZ th := by
    simp only [List.mem_cons, List.not_mem_nil, or_false] at hy
    rcases hy with rfl | rfl | rfl | rfl | rfl | rfl
    · exact ⟨some _, rfl⟩
    · exact ⟨some _, rfl⟩
    · exact ⟨some _, rfl⟩
    · exact ⟨some _, rfl⟩
    · exact ⟨some _, rfl⟩
    · exact ⟨none, rfl⟩
  obtain ⟨t2, rw6, e6, r6, l0, l1⟩ := taken_ok r5 (n := 2) (by decide)
  have ed : dWz one = .tup (one.map dZ) := rfl
  have hc1 := cutG_len one none (some p)
  have hc2 := cutG_len one (some (p + 1)) none
  have hc3 := cutG_len one (some 1) none
  have ea1 : fAdd (.tup ((cutG one none (some p)).map dZ)) (.tup [dZ th]) = some (.tup ((cutG one none (some p) ++ [th]).map dZ)) := by rw [fAdd_tup _ _ (by simp only [List.length_map, List.length_cons, List.length_nil]; omega), List.map_append]; rfl
  have ea2 : fAdd (.tup ((cutG one none (some p) ++ [th]).map dZ)) (.tup ((cutG one (some (p + 1)) none).map dZ)) = some (.tup ((cutG one none (some p) ++ [th] ++ cutG one (some (p + 1)) none).map dZ)) := by rw [fAdd_tup _ _ (by simp only [List.length_map, List.length_append, List.length_cons, List.length_nil]; omega)]; simp only [List.map_append]
  have ea3 : fAdd (.tup (one.map dZ)) (.tup [.non]) = some (.tup ((one ++ [none]).map dZ)) := by rw [fAdd_tup _ _ (by simp only [List.length_map, List.length_cons, List.length_nil]; omega), List.map_append]; rfl
  obtain ⟨z, ez, hz⟩ := pick (xs := [D.int 0, D.int 0, D.int 0, D.int 1, D.int 2]) (t := t8 - 4 + t2) (by omega) (by show _ < ((5 : Nat) : Int); omega)
  obtain ⟨zi, rfl, z0, z1⟩ : ∃ i, z = D.int i ∧ 0 ≤ i ∧ i < 3 := by
    simp only [List.mem_cons, List.not_mem_nil, or_false] at hz
    rcases hz with rfl | rfl | rfl | rfl | rfl <;> exact ⟨_, rfl, by omega, by omega⟩
  obtain ⟨u, eu, hu⟩ := pick (xs := [D.tup ((cutG one none (some p) ++ [th] ++ cutG one (some (p + 1)) none).map dZ), D.tup ((cutG one (some 1) none).map dZ), D.tup ((one ++ [none]).map dZ)]) z0 (by simpa using z1)
  obtain ⟨one', rfl, ho'⟩ : ∃ o : List (Option Int), u = dWz o ∧ o.length ≤ 2 * n + 200 := by
    simp only [List.mem_cons, List.not_mem_nil, or_false] at hu
    rcases hu with rfl | rfl | rfl
    · exact ⟨_, rfl, by simp only [List.length_append, List.length_cons, List.length_nil]; omega⟩
    · exact ⟨_, rfl, by omega⟩
    · exact ⟨_, rfl, by simp only [List.length_append, List.length_cons, List.length_nil]; omega⟩
  have hd1 := cutG_len ws none (some k)
  have hd2 := cutG_len ws (some (k + 1)) none
  have eb1 : fAdd (.tup ((cutG ws none (some k)).map dWz)) (.tup [dWz one']) = some (.tup ((cutG ws none (some k) ++ [one']).map dWz)) := by rw [fAdd_tup _ _ (by simp only [List.length_map, List.length_cons, List.length_nil]; omega), List.map_append]; rfl
  have eb2 : fAdd (.tup ((cutG ws none (some k) ++ [one']).map dWz)) (.tup ((cutG ws (some (k + 1)) none).map dWz)) = some (.tup ((cutG ws none (some k) ++ [one'] ++ cutG ws (some (k + 1)) none).map dWz)) := by rw [fAdd_tup _ _ (by simp only [List.length_map, List.length_append, List.length_cons, List.length_nil]; omega)]; simp only [List.map_append]
  refine ⟨⟨m, S, cutG ws none (some k) ++ [one'] ++ cutG ws (some (k + 1)) none⟩, rw6, ?_, r6, ⟨hlo, hhi, by dsimp only; omega, fun q1 q2 => by have := hS1 q1 q2; dsimp only; omega, ?_, fun w hw => ?_⟩⟩
  · simp -implicitDefEqProofs only [eO, List.replicate, sSeq_ap, sSet_ap, sAsg_ap, eV_ap, eCall_ap, aCons_ap, aNil_ap, eK_ap, List.getElem?_cons_succ, List.getElem?_cons_zero, getV_val, bind_ok, List.length_cons, List.length_nil, Nat.zero_add, Nat.reduceAdd, if_true, List.set_cons_succ, List.set_cons_zero, seqK_next, seqK_ret, sIf_ap, toB_ap, eBin_ap, fEq_int, ofO_some, toBK_bl, sRet_ap, eTup_ap, eLst_ap, fSub_int, fAdd_int, fIx_lst, fIx_tup, sNext_ap, Bool.false_eq_true, if_false, decide_true, decide_false, dFin_ret, fCmp_int, eSl_ap, pNone_ap, pSome_ap, fSl_tup, eArgs_ap, fLen_tup, List.length_map, fMax2_int, hmx, e3, h0, h1, h3, h5, h6, ec1, ex, ed, e4, e5, ey, e6, cutG_map, ea1, ea2, ea3, ez, eu, eb1, eb2]
    rfl
  · simp only [List.length_append, List.length_cons, List.length_nil]; omega
  · rcases List.mem_append.mp hw with hw | hw
    · rcases List.mem_append.mp hw with hw | hw
      · have := hW1 w (cutG_mem hw); omega
      · simp at hw; subst hw; exact ho'
    · have := hW1 w (cutG_mem hw); omega
end K01
end
section
/-! Law 1, plain: why a web is none. -/
namespace K01
open PySem PySem.Spec L2 HD HC

def silP (m : Int) (S : List Int) : Bool := decide (S = (rgI m).filter fun p => decide (p ∈ S))
def nextB (m p : Nat) : Option (Option Int) → Bool
  | some (some t) => decide (0 ≤ t) && decide (t < (m : Int)) && !decide (t = (p : Int))
  | _ => true
def wayP (m g : Nat) (w : List (Option Int)) : Bool := decide (w.length = m) && (decide (w[g]? = some none) && (List.range' 0 m).all fun p => nextB m p w[p]?)
def waysB (m : Nat) (ws : List (List (Option Int))) : Bool := (List.range' 0 (m - 1)).all fun i => wayP m (i + 1) ((ws[i]?).getD [])
/-- why it is none -/
def why (O : Ow) : Option Str := if 2 ≤ O.m then if O.m ≤ 6 then if silP O.m O.S = true then if (O.ws.length : Int) = O.m - 1 then if waysB O.m.toNat O.ws = true then none else some "ways" else some "ways" else some "silent" else some "many" else some "many"
def whyD (O : Ow) : D := match why O with
  | some y => .str y
  | none => .non
/-! ### loops that hand back, or let out, one thing -/
theorem loop_ret {tg : D → Dl → Option Dl} {body : SM} (inv : Dl → Prop) (b : Nat → Bool) (z : D) (rw : Rw) : ∀ (ds : List D) (k : Nat) (l : Dl), inv l →
    (∀ i d l, ds[i]? = some d → inv l → ∃ l1, tg d l = some l1 ∧ ((b (k + i) = true ∧ ∃ l2, body l1 rw = .ok (.next, l2, rw) ∧ inv l2) ∨ (b (k + i) = false ∧ ∃ l2, body l1 rw = .ok (.ret z, l2, rw)))) →
    ((List.range' k ds.length).all b = true ∧ ∃ l', sLoop tg body ds l rw = .ok (.next, l', rw) ∧ inv l') ∨ ((List.range' k ds.length).all b = false ∧ ∃ l', sLoop tg body ds l rw = .ok (.ret z, l', rw))
  | [], k, l, hl, _ => .inl ⟨rfl, l, rfl, hl⟩
  | d :: ds, k, l, hl, h => by
    obtain ⟨l1, h1, h2⟩ := h 0 d l rfl hl
    rw [Nat.add_zero] at h2
    have er : (List.range' k (d :: ds).length).all b = (b k && (List.range' (k + 1) ds.length).all b) := by rw [List.length_cons, List.range'_succ, List.all_cons]
    rw [er]
    unfold sLoop
    rw [h1]
    rcases h2 with ⟨hb, l2, h3, h4⟩ | ⟨hb, l2, h3⟩
    · rw [hb, Bool.true_and]
      simp only [h3, bind_ok]
      refine loop_ret inv b z rw ds (k + 1) l2 h4 fun i d' l hd hl => ?_
      rw [show k + 1 + i = k + (i + 1) by omega]
      exact h (i + 1) d' l (by simpa using hd) hl
    · rw [hb, Bool.false_and]
      simp only [h3, bind_ok]
      exact .inr ⟨trivial, l2, rfl⟩
theorem loop_exc {tg : D → Dl → Option Dl} {body : SM} (inv : Dl → Prop) (b : Nat → Bool) (x : Exn) (rw : Rw) : ∀ (ds : List D) (k : Nat) (l : Dl), inv l →
    (∀ i d l, ds[i]? = some d → inv l → ∃ l1, tg d l = some l1 ∧ ((b (k + i) = true ∧ ∃ l2, body l1 rw = .ok (.next, l2, rw) ∧ inv l2) ∨ (b (k + i) = false ∧ body l1 rw = .exc x rw))) →
    ((List.range' k ds.length).all b = true ∧ ∃ l', sLoop tg body ds l rw = .ok (.next, l', rw) ∧ inv l') ∨ ((List.range' k ds.length).all b = false ∧ sLoop tg body ds l rw = .exc x rw)
  | [], k, l, hl, _ => .inl ⟨rfl, l, rfl, hl⟩
  | d :: ds, k, l, hl, h => by
    obtain ⟨l1, h1, h2⟩ := h 0 d l rfl hl
    rw [Nat.add_zero] at h2
    have er : (List.range' k (d :: ds).length).all b = (b k && (List.range' (k + 1) ds.length).all b) := by rw [List.length_cons, List.range'_succ, List.all_cons]
    rw [er]
    unfold sLoop
    rw [h1]
    rcases h2 with ⟨hb, l2, h3, h4⟩ | ⟨hb, h3⟩
    · rw [hb, Bool.true_and]
      simp only [h3, bind_ok]
      refine loop_exc inv b x rw ds (k + 1) l2 h4 fun i d' l hd hl => ?_
      rw [show k + 1 + i = k + (i + 1) by omega]
      exact h (i + 1) d' l (by simpa using hd) hl
    · rw [hb, Bool.false_and]
      simp only [h3, bind_exc]
      exact .inr ⟨trivial, trivial⟩
/-! ### ints -/
theorem flat_dIs (P : List Int) : (dIs P).all flatD = true := by simp [dIs, flatD]
theorem anyF_dIs (v : Int) : ∀ P : List Int, ((dIs P).any fun y => eqF y (.int v)) = decide (v ∈ P)
  | [] => by simp [dIs]
  | x :: P => by
    show (eqF (.int x) (.int v) || (dIs P).any fun y => eqF y (.int v)) = _
    rw [anyF_dIs v P]
    simp only [eqF, List.mem_cons]
    by_cases h : v = x
    · subst h; simp
    · have h2 : ¬ (x = v) := fun e => h e.symm
      simp [h, h2]
theorem fIn_dIs (v : Int) (P : List Int) : fIn false (.int v) (.tup (dIs P)) = some (.bl (decide (v ∈ P))) := by
  unfold fIn fInF seqOf
  simp only [flatD, flat_dIs, and_self, if_true, anyF_dIs, Bool.false_eq_true, if_false]
theorem eqDs_dIs : ∀ S T : List Int, eqDs (dIs S) (dIs T) = decide (S = T)
  | [], [] => by simp [dIs]
  | [], _ :: _ => by simp [dIs]
  | _ :: _, [] => by simp [dIs]
  | x :: S, y :: T => by
    show (eqD (.int x) (.int y) && eqDs (dIs S) (dIs T)) = _
    rw [eqDs_dIs S T, eqD_int]
    by_cases h : x = y <;> by_cases h2 : S = T <;> simp [h, h2]
theorem fit_dIs (n : Nat) (S : List Int) : (dIs S).all (fit n) = true := by simp [dIs]
theorem fNe_dIs (S T : List Int) : fNe (.lst (dIs S)) (.lst (dIs T)) = some (.bl (!decide (S = T))) := by
  unfold fNe
  rw [if_pos ⟨by rw [fit_lst]; exact fit_dIs _ _, by rw [fit_lst]; exact fit_dIs _ _⟩, eqD_lst, eqDs_dIs]
theorem compL_int {tg : D → Dl → Option Dl} {c : EM Bool} {e : EM D} {lw : Dl} {rw : Rw} (b : Int → Bool) : ∀ xs : List Int, (∀ x ∈ xs, ∃ l1, tg (.int x) lw = some l1 ∧ c l1 rw = .ok (b x, rw) ∧ e l1 rw = .ok (.int x, rw)) → compL tg c e lw (dIs xs) rw = .ok (dIs (xs.filter b), rw)
  | [], _ => rfl
  | x :: xs, hh => by
    obtain ⟨l1, h1, h2, h3⟩ := hh x (by simp)
    have ih := compL_int b xs fun y hy => hh y (List.mem_cons_of_mem _ hy)
    show compL tg c e lw (.int x :: dIs xs) rw = _
    unfold compL
    rw [h1]
    cases q : b x with
    | true =>
      rw [List.filter_cons, if_pos q]
      simp only [h2, h3, q, noX_ok, bind_ok, if_true, ih]
      rfl
    | false =>
      rw [List.filter_cons, if_neg (by rw [q]; simp)]
      simp only [h2, q, noX_ok, bind_ok, Bool.false_eq_true, if_false, ih]
theorem chain_int (l : Dl) (rw : Rw) (f g : Int → Int → Bool) (ga gb gc : EM D) {i j k : Int} (h1 : ga l rw = .ok (.int i, rw)) (h2 : gb l rw = .ok (.int j, rw)) (h3 : gc l rw = .ok (.int k, rw)) : eChain (fCmp f) (fCmp g) ga gb gc l rw = .ok (.bl (f i j && g j k), rw) := by
  rw [eChain_ap, h1, bind_ok, h2, bind_ok]
  simp only [fCmp_int]
  cases f i j with
  | false => rfl
  | true => simp only [h3, bind_ok, fCmp_int, ofO_some, Bool.true_and]
theorem notNon_dZ (o : Option Int) : notNonD (dZ o) = some (.bl (o.isSome)) := by cases o <;> rfl
theorem way_at {w : List (Option Int)} {p : Nat} (hp : p < w.length) : L2.atI (w.map dZ) (p : Int) = some (dZ w[p]) := atI_nat (by rw [List.getElem?_map, List.getElem?_eq_getElem hp]; rfl)
/-- the look at a next post -/
def nxT (x y : EM D) : EM Bool := tAnd' (toB (eUn notNonD x)) (tOr' (tNot' (toB (eChain fLe fLt (eK (.int 0)) x (eV 1)))) (toB (eBin fEq x y)))
theorem next_test {l : Dl} {rw : Rw} {x y mm : EM D} {m p : Nat} {o : Option Int} (hx : x l rw = .ok (dZ o, rw)) (hy : y l rw = .ok (.int (p : Int), rw)) (hm : mm l rw = .ok (.int (m : Int), rw)) :
    (tAnd' (toB (eUn notNonD x)) (tOr' (tNot' (toB (eChain fLe fLt (eK (.int 0)) x mm))) (toB (eBin fEq x y)))) l rw = .ok (!nextB m p (some o), rw) := by
  rw [tAnd_ap, toB_ap, eUn_ap, hx, bind_ok, notNon_dZ, ofO_some, bind_ok]
  cases o with
  | none => rfl
  | some t =>
    have e1 : eChain fLe fLt (eK (.int 0)) x mm l rw = .ok (.bl (decide (0 ≤ t) && decide (t < (m : Int))), rw) := chain_int l rw _ _ _ _ _ rfl hx hm
    simp only [Option.isSome_some, toBK_bl, bind_ok, if_true, tOr_ap, tNot_ap, toB_ap, e1, eBin_ap, hx, hy, dZ_some, fEq_int, ofO_some]
    show (if (!(decide (0 ≤ t) && decide (t < (m : Int)))) = true then _ else _) = _
    unfold nextB
    cases hq : (decide (0 ≤ t) && decide (t < (m : Int))) with
    | false => simp at hq ⊢; omega
    | true => simp at hq ⊢; intro _; omega
/-! ### a way -/
theorem is_way_eq {m g : Nat} {w : List (Option Int)} {rw : Rw} (hm : m ≤ 6) (hg : g < m) : d_is_way [.int (m : Int), .int (g : Int), dWz w] rw = .ok (.bl (wayP m g w), rw) := by
  unfold d_is_way b_is_way
  rw [dDef3]
  have ew : dWz w = .tup (w.map dZ) := rfl
  by_cases hl : w.length = m
  case neg =>
    have h1 : ¬ ((w.length : Int) = (m : Int)) := by omega
    simp -implicitDefEqProofs only [ew, List.replicate, sSeq_ap, sIf_ap, tOr_ap, toB_ap, eBin_ap, eUn_ap, eArgs_ap, aCons_ap, aNil_ap, eV_ap, List.getElem?_cons_succ, List.getElem?_cons_zero, getV_val, bind_ok, fLen_tup, ofO_some, List.length_map, fNe_int, h1, decide_false, Bool.not_false, toBK_bl, if_true, sRet_ap, eK_ap, seqK_ret, dFin_ret]
    unfold wayP
    simp [hl]
  have h1 : ((w.length : Int) = (m : Int)) := by omega
  have hgl : g < w.length := by omega
  have hat := way_at hgl
  simp -implicitDefEqProofs only [ew, List.replicate, sSeq_ap, sIf_ap, tOr_ap, toB_ap, eBin_ap, eUn_ap, eArgs_ap, aCons_ap, aNil_ap, eV_ap, List.getElem?_cons_succ, List.getElem?_cons_zero, getV_val, bind_ok, fLen_tup, ofO_some, List.length_map, fNe_int, h1, decide_true, Bool.not_true, toBK_bl, Bool.false_eq_true, if_false, fIx_tup, hat, notNon_dZ]
  cases hwg : w[g] with
  | some t =>
    simp -implicitDefEqProofs only [Option.isSome_some, if_true, sRet_ap, eK_ap, seqK_ret, dFin_ret, bind_ok]
    unfold wayP
    simp [hl, List.getElem?_eq_getElem hgl, hwg]
  | none =>
    simp -implicitDefEqProofs only [Option.isSome_none, Bool.false_eq_true, if_false, sNext_ap, bind_ok, seqK_next, sSeq_ap, sFor_ap, aRng_ap, aCons_ap, aNil_ap, eV_ap, List.getElem?_cons_succ, List.getElem?_cons_zero, getV_val, rng1_ap]
    rw [if_pos ⟨by omega, by omega⟩]
    simp only [ofO_some, bind_ok, Int.toNat_natCast]
    generalize hb : sSeq (sSet 4 _) _ = body
    have key := loop_ret (tg := gN 3) (body := body) (fun l => ∃ x3 x4, l = [.val (.int (m : Int)), .val (.int (g : Int)), .val (.tup (w.map dZ)), x3, x4]) (fun p => nextB m p w[p]?) (.bl false) rw (rangeD 0 m) 0
      [.val (.int (m : Int)), .val (.int (g : Int)), .val (.tup (w.map dZ)), .no, .no] ⟨_, _, rfl⟩ (by
        rintro i d l hd ⟨x3, x4, rfl⟩
        have hi : i < m := by have := (List.getElem?_eq_some_iff.mp hd).1; simpa using this
        rw [rangeD_get hi] at hd
        cases hd
        have hi2 : i < w.length := by omega
        have hx := way_at hi2
        have ei : (0 : Int) + (i : Int) = (i : Int) := by omega
        refine ⟨_, rfl, ?_⟩
        rw [Nat.zero_add, List.getElem?_eq_getElem hi2]
        subst hb
        have hT := next_test (x := eV 4) (y := eV 3) (mm := eV 0) (m := m) (p := i) (o := w[i]) (l := [.val (.int (m : Int)), .val (.int (g : Int)), .val (.tup (w.map dZ)), .val (.int (i : Int)), .val (dZ w[i])]) (rw := rw) rfl rfl rfl
        rw [ei]
        simp -implicitDefEqProofs only [List.set_cons_succ, List.set_cons_zero, sSeq_ap, sSet_ap, eBin_ap, eV_ap, List.getElem?_cons_succ, List.getElem?_cons_zero, getV_val, bind_ok, fIx_tup, hx, ofO_some, seqK_next, sIf_ap, hT]
        cases nextB m i (some w[i]) with
        | true => exact .inl ⟨rfl, _, rfl, _, _, rfl⟩
        | false => exact .inr ⟨rfl, _, rfl⟩)
    rw [rangeD_len] at key
    have wp : wayP m g w = (List.range' 0 m).all fun p => nextB m p w[p]? := by
      unfold wayP
      rw [List.getElem?_eq_getElem hgl, hwg]
      simp [hl]
    rcases key with ⟨ha, l', e, _⟩ | ⟨ha, l', e⟩
    · rw [e, wp, ha]; rfl
    · rw [e, wp, ha]; rfl
end K01
end
section
/-! Law 1, plain: the law and the program tell the same why. -/
namespace K01
open PySem PySem.Spec L2 HD HC

/-- the law's look at the ways -/
def whyWays : SM := sFor (aRng rng2 (aCons (eK (.int 1)) (aCons (eV 1) aNil))) (gN 5) (sSeq (sSet 6 (eBin fIx (eV 3) (eBin fSub (eV 5) (eK (.int 1))))) (sSeq (sIf (tOr' (toB (eBin fNe (eArgs fLen (aCons (eV 6) aNil)) (eV 1))) (toB (eUn notNonD (eBin fIx (eV 6) (eV 5))))) (sRet (eK (.str "ways"))) sNext) (sFor (aRng rng1 (aCons (eV 1) aNil)) (gN 4) (sIf (tAnd' (toB (eUn notNonD (eBin fIx (eV 6) (eV 4)))) (tOr' (tNot' (toB (eChain fLe fLt (eK (.int 0)) (eBin fIx (eV 6) (eV 4)) (eV 1)))) (toB (eBin fEq (eBin fIx (eV 6) (eV 4)) (eV 4))))) (sRet (eK (.str "ways"))) sNext))))
/-- one goal's way, as the law looks at it -/
theorem way_look {m i : Nat} {w : List (Option Int)} {rw : Rw} {a0 a2 a3 : D} {x4 : Sl} (hm : m ≤ 6) (hg : i + 1 < m) :
    (wayP m (i + 1) w = true ∧ ∃ y4, (sSeq (sIf (tOr' (toB (eBin fNe (eArgs fLen (aCons (eV 6) aNil)) (eV 1))) (toB (eUn notNonD (eBin fIx (eV 6) (eV 5))))) (sRet (eK (.str "ways"))) sNext) (sFor (aRng rng1 (aCons (eV 1) aNil)) (gN 4) (sIf (tAnd' (toB (eUn notNonD (eBin fIx (eV 6) (eV 4)))) (tOr' (tNot' (toB (eChain fLe fLt (eK (.int 0)) (eBin fIx (eV 6) (eV 4)) (eV 1)))) (toB (eBin fEq (eBin fIx (eV 6) (eV 4)) (eV 4))))) (sRet (eK (.str "ways"))) sNext))) [.val a0, .val (.int (m : Int)), .val a2, .val a3, x4, .val (.int ((i + 1 : Nat) : Int)), .val (dWz w)] rw = .ok (.next, [.val a0, .val (.int (m : Int)), .val a2, .val a3, y4, .val (.int ((i + 1 : Nat) : Int)), .val (dWz w)], rw)) ∨
    (wayP m (i + 1) w = false ∧ ∃ l2, (sSeq (sIf (tOr' (toB (eBin fNe (eArgs fLen (aCons (eV 6) aNil)) (eV 1))) (toB (eUn notNonD (eBin fIx (eV 6) (eV 5))))) (sRet (eK (.str "ways"))) sNext) (sFor (aRng rng1 (aCons (eV 1) aNil)) (gN 4) (sIf (tAnd' (toB (eUn notNonD (eBin fIx (eV 6) (eV 4)))) (tOr' (tNot' (toB (eChain fLe fLt (eK (.int 0)) (eBin fIx (eV 6) (eV 4)) (eV 1)))) (toB (eBin fEq (eBin fIx (eV 6) (eV 4)) (eV 4))))) (sRet (eK (.str "ways"))) sNext))) [.val a0, .val (.int (m : Int)), .val a2, .val a3, x4, .val (.int ((i + 1 : Nat) : Int)), .val (dWz w)] rw = .ok (.ret (.str "ways"), l2, rw)) := by
  have ew : dWz w = .tup (w.map dZ) := rfl
  by_cases hl : w.length = m
  case neg =>
    have h1 : ¬ ((w.length : Int) = (m : Int)) := by omega
    refine .inr ⟨by unfold wayP; simp [hl], [.val a0, .val (.int (m : Int)), .val a2, .val a3, x4, .val (.int ((i + 1 : Nat) : Int)), .val (dWz w)], ?_⟩
    simp -implicitDefEqProofs only [ew, sSeq_ap, sIf_ap, tOr_ap, toB_ap, eBin_ap, eUn_ap, eArgs_ap, aCons_ap, aNil_ap, eV_ap, List.getElem?_cons_succ, List.getElem?_cons_zero, getV_val, bind_ok, fLen_tup, ofO_some, List.length_map, fNe_int, h1, decide_false, Bool.not_false, toBK_bl, if_true, sRet_ap, eK_ap, seqK_ret]
  have h1 : ((w.length : Int) = (m : Int)) := by omega
  have hgl : i + 1 < w.length := by omega
  have hat := way_at hgl
  cases hwg : w[i + 1] with
  | some t =>
    refine .inr ⟨by unfold wayP; simp [hl, List.getElem?_eq_getElem hgl, hwg], [.val a0, .val (.int (m : Int)), .val a2, .val a3, x4, .val (.int ((i + 1 : Nat) : Int)), .val (dWz w)], ?_⟩
    simp -implicitDefEqProofs only [ew, sSeq_ap, sIf_ap, tOr_ap, toB_ap, eBin_ap, eUn_ap, eArgs_ap, aCons_ap, aNil_ap, eV_ap, List.getElem?_cons_succ, List.getElem?_cons_zero, getV_val, bind_ok, fLen_tup, ofO_some, List.length_map, fNe_int, h1, decide_true, Bool.not_true, toBK_bl, Bool.false_eq_true, if_false, fIx_tup, hat, hwg, notNon_dZ, Option.isSome_some, if_true, sRet_ap, eK_ap, seqK_ret]
  | none =>
    have wp : wayP m (i + 1) w = (List.range' 0 m).all fun p => nextB m p w[p]? := by
      unfold wayP
      rw [List.getElem?_eq_getElem hgl, hwg]
      simp [hl]
    rw [wp]
    simp -implicitDefEqProofs only [ew, sSeq_ap, sIf_ap, tOr_ap, toB_ap, eBin_ap, eUn_ap, eArgs_ap, aCons_ap, aNil_ap, eV_ap, List.getElem?_cons_succ, List.getElem?_cons_zero, getV_val, bind_ok, fLen_tup, ofO_some, List.length_map, fNe_int, h1, decide_true, Bool.not_true, toBK_bl, Bool.false_eq_true, if_false, fIx_tup, hat, hwg, notNon_dZ, Option.isSome_none, sNext_ap, seqK_next, sFor_ap, aRng_ap, rng1_ap]
    rw [if_pos ⟨by omega, by omega⟩]
    simp only [ofO_some, bind_ok, Int.toNat_natCast]
    generalize hb : sIf (tAnd' (toB (eUn notNonD (eBin fIx (eV 6) (eV 4)))) _) _ _ = body
    have key := loop_ret (tg := gN 4) (body := body) (fun l => ∃ y4, l = [.val a0, .val (.int (m : Int)), .val a2, .val a3, y4, .val (.int ((i + 1 : Nat) : Int)), .val (.tup (w.map dZ))]) (fun p => nextB m p w[p]?) (.str "ways") rw (rangeD 0 m) 0
      [.val a0, .val (.int (m : Int)), .val a2, .val a3, x4, .val (.int ((i + 1 : Nat) : Int)), .val (.tup (w.map dZ))] ⟨_, rfl⟩ (by
        rintro j d l hd ⟨y4, rfl⟩
        have hj : j < m := by have := (List.getElem?_eq_some_iff.mp hd).1; simpa using this
        rw [rangeD_get hj] at hd
        cases hd
        have hj2 : j < w.length := by omega
        have hx := way_at hj2
        have ei : (0 : Int) + (j : Int) = (j : Int) := by omega
        refine ⟨_, rfl, ?_⟩
        rw [Nat.zero_add, List.getElem?_eq_getElem hj2]
        subst hb
        have hT := next_test (x := eBin fIx (eV 6) (eV 4)) (y := eV 4) (mm := eV 1) (m := m) (p := j) (o := w[j]) (l := [.val a0, .val (.int (m : Int)), .val a2, .val a3, .val (.int (j : Int)), .val (.int ((i + 1 : Nat) : Int)), .val (.tup (w.map dZ))]) (rw := rw) (by
          simp -implicitDefEqProofs only [eBin_ap, eV_ap, List.getElem?_cons_succ, List.getElem?_cons_zero, getV_val, bind_ok, fIx_tup, hx, ofO_some]) rfl rfl
        rw [ei]
        simp -implicitDefEqProofs only [List.set_cons_succ, List.set_cons_zero, sIf_ap, hT, bind_ok]
        cases nextB m j (some w[j]) with
        | true => exact .inl ⟨rfl, _, rfl, _, rfl⟩
        | false => exact .inr ⟨rfl, _, rfl⟩)
    rw [rangeD_len] at key
    rcases key with ⟨ha, l', e, y4, rfl⟩ | ⟨ha, l', e⟩
    · exact .inl ⟨ha, y4, e⟩
    · exact .inr ⟨ha, l', e⟩
theorem whyWays_ok {m : Nat} {ws : List (List (Option Int))} {rw : Rw} {a0 a2 : D} (h2 : 2 ≤ m) (hm : m ≤ 6) (hl : ws.length = m - 1) :
    (waysB m ws = true ∧ ∃ l', whyWays [.val a0, .val (.int (m : Int)), .val a2, .val (.tup (ws.map dWz)), .no, .no, .no] rw = .ok (.next, l', rw)) ∨
    (waysB m ws = false ∧ ∃ l', whyWays [.val a0, .val (.int (m : Int)), .val a2, .val (.tup (ws.map dWz)), .no, .no, .no] rw = .ok (.ret (.str "ways"), l', rw)) := by
  unfold whyWays waysB
  simp -implicitDefEqProofs only [sFor_ap, aRng_ap, aCons_ap, aNil_ap, eK_ap, eV_ap, List.getElem?_cons_succ, List.getElem?_cons_zero, getV_val, bind_ok, rng2_ap]
  rw [if_pos ⟨⟨by decide, by decide⟩, by omega, by omega⟩]
  have hn : ((m : Int) - 1).toNat = m - 1 := by omega
  simp only [ofO_some, bind_ok, hn]
  generalize hb : sSeq (sSet 6 _) _ = body
  have key := loop_ret (tg := gN 5) (body := body) (fun l => ∃ x4 x5 x6, l = [.val a0, .val (.int (m : Int)), .val a2, .val (.tup (ws.map dWz)), x4, x5, x6]) (fun i => wayP m (i + 1) ((ws[i]?).getD [])) (.str "ways") rw (rangeD 1 (m - 1)) 0
    [.val a0, .val (.int (m : Int)), .val a2, .val (.tup (ws.map dWz)), .no, .no, .no] ⟨_, _, _, rfl⟩ (by
      rintro i d l hd ⟨x4, x5, x6, rfl⟩
      have hi : i < m - 1 := by have := (List.getElem?_eq_some_iff.mp hd).1; simpa using this
      rw [rangeD_get hi] at hd
      cases hd
      have hi2 : i < ws.length := by omega
      have ei : (1 : Int) + (i : Int) = ((i + 1 : Nat) : Int) := by omega
      have hx : L2.atI (ws.map dWz) (((i + 1 : Nat) : Int) - 1) = some (dWz ws[i]) := by
        rw [show ((i + 1 : Nat) : Int) - 1 = ((i : Nat) : Int) by omega]
        exact atI_nat (by rw [List.getElem?_map, List.getElem?_eq_getElem hi2]; rfl)
      refine ⟨_, rfl, ?_⟩
      rw [Nat.zero_add, List.getElem?_eq_getElem hi2, Option.getD_some, ei]
      subst hb
      rw [sSeq_ap]
      simp -implicitDefEqProofs only [List.set_cons_succ, List.set_cons_zero, sSet_ap, eBin_ap, eV_ap, eK_ap, List.getElem?_cons_succ, List.getElem?_cons_zero, getV_val, bind_ok, fSub_int, ofO_some, fIx_tup, hx, seqK_next]
      rcases way_look (m := m) (i := i) (w := ws[i]) (rw := rw) (a0 := a0) (a2 := a2) (a3 := .tup (ws.map dWz)) (x4 := x4) hm (by omega) with ⟨h1, y4, e⟩ | ⟨h1, l2, e⟩
      · exact .inl ⟨h1, _, e, _, _, _, rfl⟩
      · exact .inr ⟨h1, l2, e⟩)
  rw [rangeD_len] at key
  rcases key with ⟨ha, l', e, _⟩ | ⟨ha, l', e⟩
  · exact .inl ⟨ha, l', e⟩
  · exact .inr ⟨ha, l', e⟩
theorem silP_iff {m : Int} {S : List Int} : silP m S = true ↔ S = (rgI m).filter fun p => decide (p ∈ S) := by unfold silP; exact decide_eq_true_iff
theorem law_why_ok {n s : Nat} {O : Ow} {rw : Rw} (h : OwB n s O) (hn : n ≤ 2000) : d__law_why [dOw O] rw = .ok (whyD O, rw) := by
  obtain ⟨m, S, ws⟩ := O
  have hlo := h.lo
  have hhi := h.hi
  have hS0 := h.S0
  dsimp only at hlo hhi hS0
  unfold d__law_why b__law_why
  rw [dDef1]
  have eO : dOw ⟨m, S, ws⟩ = .tup [.int m, .tup (dIs S), .tup (ws.map dWz)] := rfl
  have e1 : ∀ a0 : D, eChain fLe fLe (eK (.int 2)) (eV 1) (eK (.int 6)) [.val a0, .val (.int m), .val (.tup (dIs S)), .val (.tup (ws.map dWz)), .no, .no, .no] rw = .ok (.bl (decide (2 ≤ m) && decide (m ≤ 6)), rw) := fun a0 => chain_int _ _ _ _ _ _ _ rfl rfl rfl
  simp -implicitDefEqProofs only [eO, List.replicate, sSeq_ap, sAsg_ap, eV_ap, List.getElem?_cons_succ, List.getElem?_cons_zero, getV_val, bind_ok, gT_ap, List.length_cons, List.length_nil, Nat.zero_add, Nat.reduceAdd, if_true, gsCons_ap, gN_ap, Option.bind_some, gsNil_ap, List.set_cons_succ, List.set_cons_zero, seqK_next, sIf_ap, tNot_ap, toB_ap, e1, toBK_bl]
  by_cases h2 : 2 ≤ m
  case neg =>
    simp -implicitDefEqProofs only [h2, decide_false, Bool.false_and, Bool.not_false, if_true, sRet_ap, eK_ap, bind_ok, seqK_ret, dFin_ret]
    unfold whyD why
    rw [if_neg h2]
  by_cases h6 : m ≤ 6
  case neg =>
    simp -implicitDefEqProofs only [h6, decide_false, Bool.and_false, Bool.not_false, if_true, sRet_ap, eK_ap, bind_ok, seqK_ret, dFin_ret]
    unfold whyD why
    rw [if_pos h2, if_neg h6]
  have ew : why ⟨m, S, ws⟩ = if silP m S = true then if (ws.length : Int) = m - 1 then if waysB m.toNat ws = true then none else some ("ways" : Str) else some ("ways" : Str) else some ("silent" : Str) := by
    unfold why
    rw [if_pos h2, if_pos h6]
  obtain ⟨k, rfl⟩ : ∃ k : Nat, m = (k : Int) := ⟨m.toNat, by omega⟩
  have hc : ∀ a0 : D, compL (gN 4) (toB (eBin (fIn false) (eV 4) (eV 2))) (eV 4) (wipeD [.val a0, .val (.int (k : Int)), .val (.tup (dIs S)), .val (.tup (ws.map dWz)), .no, .no, .no] [4]) (dIs (rgI (k : Int))) rw = .ok (dIs ((rgI (k : Int)).filter fun p => decide (p ∈ S)), rw) := fun a0 => compL_int _ _ fun x hx => ⟨_, rfl, by
    simp -implicitDefEqProofs only [wipeD, List.set_cons_succ, List.set_cons_zero, toB_ap, eBin_ap, eV_ap, List.getElem?_cons_succ, List.getElem?_cons_zero, getV_val, bind_ok, fIn_dIs, ofO_some, toBK_bl], rfl⟩
  have hr : (((-1000000 : Int) ≤ 1 ∧ (1 : Int) ≤ 1000000) ∧ -1000000 ≤ (k : Int) ∧ (k : Int) ≤ 1000000) := ⟨⟨by decide, by decide⟩, by omega, by omega⟩
  have hrl : (dIs (rgI (k : Int))).length ≤ sizeLine := sl_big (by rw [dIs_len, rgI_len]; omega)
  simp -implicitDefEqProofs only [h2, h6, decide_true, Bool.and_self, Bool.not_true, Bool.false_eq_true, if_false, sNext_ap, bind_ok, seqK_next, sSeq_ap, sIf_ap, toB_ap, eBin_ap, eArgs_ap, aCons_ap, aNil_ap, eV_ap, eK_ap, eComp_ap, aRng_ap, List.getElem?_cons_succ, List.getElem?_cons_zero, getV_val, fList_tup, ofO_some, rng2_ap, hr, and_self, if_true, rangeD_rgI, hrl, hc, fNe_dIs, toBK_bl]
  by_cases hs : S = (rgI (k : Int)).filter fun p => decide (p ∈ S)
  case neg =>
    have hs' : ¬ silP (k : Int) S = true := fun z => hs (silP_iff.mp z)
    have hd : (!decide (S = (rgI (k : Int)).filter fun p => decide (p ∈ S))) = true := by simp only [decide_eq_false hs, Bool.not_false]
    simp -implicitDefEqProofs only [hd, if_true, sRet_ap, eK_ap, bind_ok, seqK_ret, dFin_ret]
    unfold whyD
    rw [ew, if_neg hs']
  have hs' : silP (k : Int) S = true := silP_iff.mpr hs
  have hd : (!decide (S = (rgI (k : Int)).filter fun p => decide (p ∈ S))) = false := by simp only [decide_eq_true hs, Bool.not_true]
  simp -implicitDefEqProofs only [hd, Bool.false_eq_true, if_false, sNext_ap, bind_ok, seqK_next, sSeq_ap, sIf_ap, toB_ap, eBin_ap, eArgs_ap, aCons_ap, aNil_ap, eV_ap, eK_ap, List.getElem?_cons_succ, List.getElem?_cons_zero, getV_val, fLen_tup, List.length_map, ofO_some, fSub_int, fNe_int, toBK_bl]
  by_cases hl : (ws.length : Int) = (k : Int) - 1
  case neg =>
    simp -implicitDefEqProofs only [hl, decide_false, Bool.not_false, if_true, sRet_ap, eK_ap, bind_ok, seqK_ret, dFin_ret]
    unfold whyD
    rw [ew, if_pos hs', if_neg hl]
  simp -implicitDefEqProofs only [hl, decide_true, Bool.not_true, Bool.false_eq_true, if_false, sNext_ap, bind_ok, seqK_next, sSeq_ap]
  have key := whyWays_ok (m := k) (ws := ws) (rw := rw) (a0 := .tup [.int (k : Int), .tup (dIs S), .tup (ws.map dWz)]) (a2 := .tup (dIs S)) (by omega) (by omega) (by omega)
  unfold whyWays at key
  rcases key with ⟨hb, l', e⟩ | ⟨hb, l', e⟩
  · rw [e]
    unfold whyD
    rw [ew, if_pos hs', if_pos hl, Int.toNat_natCast, if_pos hb]
    rfl
  · rw [e]
    unfold whyD
    rw [ew, if_pos hs', if_pos hl, Int.toNat_natCast, if_neg (by rw [hb]; exact Bool.false_ne_true)]
    rfl
end K01
end
section
/-! Law 1, plain: need_web refuses what is none, with the same word. -/
namespace K01
open PySem PySem.Spec L2 HD HC

theorem mem_rgI {m k : Int} : k ∈ rgI m ↔ 1 ≤ k ∧ k < m := by
  unfold rgI
  rw [List.mem_map]
  constructor
  · rintro ⟨i, hi, rfl⟩
    have := List.mem_range.mp hi
    omega
  · rintro ⟨h1, h2⟩
    exact ⟨(k - 1).toNat, List.mem_range.mpr (by omega), by omega⟩
theorem pw_rgI (m : Int) : (rgI m).Pairwise (· < ·) := by
  unfold rgI
  rw [List.pairwise_map]
  exact List.pairwise_lt_range.imp fun {a b} h => by omega
theorem sil_iff (m : Int) (S : List Int) : (S = (rgI m).filter fun p => decide (p ∈ S)) ↔ (S = sortU S ∧ (S.filter fun p => !(decide (1 ≤ p) && decide (p < m))) = []) := by
  have pF : ((rgI m).filter fun p => decide (p ∈ S)).Pairwise (· < ·) := (pw_rgI m).filter _
  constructor
  · intro hS
    have hp : S.Pairwise (· < ·) := by rw [← hS] at pF; exact pF
    refine ⟨(pw_uniq (pw_sortU S) hp fun k => mem_sortU).symm, ?_⟩
    rw [List.filter_eq_nil_iff]
    intro a ha
    have ha2 : a ∈ (rgI m).filter fun p => decide (p ∈ S) := by rw [← hS]; exact ha
    have := mem_rgI.mp (List.mem_filter.mp ha2).1
    simp [this.1, this.2]
  · rintro ⟨h1, h2⟩
    have hp : S.Pairwise (· < ·) := by have := pw_sortU S; rw [← h1] at this; exact this
    refine pw_uniq hp pF fun k => ?_
    rw [List.mem_filter]
    constructor
    · intro hk
      have := List.filter_eq_nil_iff.mp h2 k hk
      have h3 : 1 ≤ k ∧ k < m := by simpa using this
      exact ⟨mem_rgI.mpr h3, by simpa using hk⟩
    · rintro ⟨_, hk⟩
      simpa using hk
theorem toInts_dIs : ∀ S : List Int, toInts (dIs S) = some S
  | [] => rfl
  | n :: S => by
    show (toInts (dIs S)).map _ = _
    rw [toInts_dIs S]
    rfl
theorem sortSet_dIs {S : List Int} (h : S.length < 64) : sortSet (.tup (dIs S)) = some (.lst (dIs (sortU S))) := by
  unfold sortSet
  show (toInts (dIs S)).bind _ = _
  rw [toInts_dIs, Option.bind_some, if_pos h]
  rfl
theorem is_many_eq {m : Int} {rw : Rw} : d_is_many [.int m] rw = .ok (.bl (decide (2 ≤ m) && decide (m ≤ 6)), rw) := by
  unfold d_is_many b_is_many
  rw [dDef1]
  have e1 : eChain fLe fLe (eK (.int 2)) (eV 0) (eK (.int 6)) [.val (.int m)] rw = .ok (.bl (decide (2 ≤ m) && decide (m ≤ 6)), rw) := chain_int _ _ _ _ _ _ _ rfl rfl rfl
  show (sRet (eChain fLe fLe (eK (.int 2)) (eV 0) (eK (.int 6))) [.val (.int m)] rw).bind (dFin false) = _
  rw [sRet_ap, e1]
  rfl
theorem noXF_ok {F : FD} {ds : List D} {rw : Rw} {p : D × Rw} (h : F ds rw = .ok p) : noXF F ds rw = .ok p := by unfold noXF; rw [h]; rfl
theorem raise_web (l : Dl) (rw : Rw) (y : Str) : sRaise mkWeb (aCons (eK (.str y)) aNil) l rw = .exc (.web y) rw := rfl
/-- what need_web tells -/
def needR (o : Option Str) (rw : Rw) : R (D × Rw) := match o with
  | none => .ok (.non, rw)
  | some y => .exc (.web y) rw
theorem need_web_eq {n s : Nat} {O : Ow} {rw : Rw} (h : OwB n s O) (hn : n ≤ 2000) (hs64 : s < 64) : K01.d_need_web [dOw O] rw = needR (why O) rw := by
  obtain ⟨m, S, ws⟩ := O
  have hlo := h.lo
  have hhi := h.hi
  have hS0 := h.S0
  have hS1 := h.S1
  dsimp only at hlo hhi hS0 hS1
  unfold K01.d_need_web K01.b_need_web
  rw [dDef1]
  have eO : dOw ⟨m, S, ws⟩ = .tup [.int m, .tup (dIs S), .tup (ws.map dWz)] := rfl
  simp -implicitDefEqProofs only [eO, List.replicate, sSeq_ap, sAsg_ap, eV_ap, List.getElem?_cons_succ, List.getElem?_cons_zero, getV_val, bind_ok, gT_ap, List.length_cons, List.length_nil, Nat.zero_add, Nat.reduceAdd, if_true, gsCons_ap, gN_ap, Option.bind_some, gsNil_ap, List.set_cons_succ, List.set_cons_zero, seqK_next, sIf_ap, tNot_ap, toB_ap, eCall_ap, aCons_ap, aNil_ap, noXF_ok is_many_eq, toBK_bl, raise_web]
  by_cases h2 : 2 ≤ m
  case neg =>
    simp -implicitDefEqProofs only [h2, decide_false, Bool.false_and, Bool.not_false, if_true, bind_exc]
    unfold why
    rw [if_neg h2]
    rfl
  by_cases h6 : m ≤ 6
  case neg =>
    simp -implicitDefEqProofs only [h6, decide_false, Bool.and_false, Bool.not_false, if_true, bind_exc]
    unfold why
    rw [if_pos h2, if_neg h6]
    rfl
  have ew : why ⟨m, S, ws⟩ = if silP m S = true then if (ws.length : Int) = m - 1 then if waysB m.toNat ws = true then none else some ("ways" : Str) else some ("ways" : Str) else some ("silent" : Str) := by
    unfold why
    rw [if_pos h2, if_pos h6]
  have hS2 := hS1 h2 h6
  obtain ⟨k, rfl⟩ : ∃ k : Nat, m = (k : Int) := ⟨m.toNat, by omega⟩
  have hc : ∀ a0 : D, compL (gN 5) (tNot' (toB (eChain fLe fLt (eK (.int 1)) (eV 5) (eV 1)))) (eV 5) (wipeD [.val a0, .val (.int (k : Int)), .val (.tup (dIs S)), .val (.tup (ws.map dWz)), .no, .no] [5]) (dIs S) rw = .ok (dIs (S.filter fun p => !(decide (1 ≤ p) && decide (p < (k : Int)))), rw) := fun a0 => compL_int _ _ fun x hx => ⟨_, rfl, by
    have e1 : eChain fLe fLt (eK (.int 1)) (eV 5) (eV 1) [.val a0, .val (.int (k : Int)), .val (.tup (dIs S)), .val (.tup (ws.map dWz)), .no, .val (.int x)] rw = .ok (.bl (decide (1 ≤ x) && decide (x < (k : Int))), rw) := chain_int _ _ _ _ _ _ _ rfl rfl rfl
    simp -implicitDefEqProofs only [wipeD, List.set_cons_succ, List.set_cons_zero, tNot_ap, toB_ap, e1, bind_ok, toBK_bl], rfl⟩
  have hsl : (dIs S).length ≤ sizeLine := sl_big (by rw [dIs_len]; omega)
  have h0 : 0 ≤ sizeLine := Nat.zero_le _
  have hnil : ∀ F : List Int, fNe (.lst (dIs F)) (.lst []) = some (.bl (!decide (F = []))) := fun F => fNe_dIs F []
  simp -implicitDefEqProofs only [h2, h6, decide_true, Bool.and_self, Bool.not_true, Bool.false_eq_true, if_false, sNext_ap, bind_ok, seqK_next, sSeq_ap, sIf_ap, tOr_ap, toB_ap, eBin_ap, eArgs_ap, eUn_ap, aCons_ap, aNil_ap, eV_ap, eK_ap, eComp_ap, aItems_ap, eLst_ap, List.length_nil, h0, List.getElem?_cons_succ, List.getElem?_cons_zero, getV_val, fList_tup, ofO_some, sortSet_dIs (show S.length < 64 by omega), itemsOf_tup, hsl, if_true, hc, fNe_dIs, hnil, toBK_bl]
  have silE : silP (k : Int) S = (decide (S = sortU S) && decide ((S.filter fun p => !(decide (1 ≤ p) && decide (p < (k : Int)))) = [])) := by
    rw [Bool.eq_iff_iff, silP_iff, sil_iff]
    simp
  -- the silent ones
  have step : ∀ (b1 b2 : Bool) (X Y : R (Fl × Dl × Rw)), ((if (!b1) = true then R.ok (true, rw) else R.ok (!b2, rw)).bind fun p => if p.1 = true then X else Y) = if (b1 && b2) = true then Y else X := by
    intro b1 b2 X Y
    cases b1 <;> cases b2 <;> rfl
  cases hb1 : decide (S = sortU S) with
  | false =>
    have : silP (k : Int) S = false := by rw [silE, hb1]; rfl
    simp -implicitDefEqProofs only [Bool.not_false, if_true, bind_ok, raise_web, bind_exc]
    rw [ew, if_neg (by rw [this]; exact Bool.false_ne_true)]
    rfl
  | true =>
  cases hb2 : decide ((S.filter fun p => !(decide (1 ≤ p) && decide (p < (k : Int)))) = []) with
  | false =>
    have : silP (k : Int) S = false := by rw [silE, hb1, hb2]; rfl
    simp -implicitDefEqProofs only [Bool.not_false, Bool.not_true, Bool.false_eq_true, if_false, if_true, bind_ok, raise_web, bind_exc]
    rw [ew, if_neg (by rw [this]; exact Bool.false_ne_true)]
    rfl
  | true =>
  have hs' : silP (k : Int) S = true := by rw [silE, hb1, hb2]; rfl
  simp -implicitDefEqProofs only [Bool.not_true, Bool.false_eq_true, if_false, bind_ok, sNext_ap, seqK_next, sSeq_ap, sIf_ap, toB_ap, eBin_ap, eArgs_ap, aCons_ap, aNil_ap, eV_ap, eK_ap, List.getElem?_cons_succ, List.getElem?_cons_zero, getV_val, fLen_tup, List.length_map, ofO_some, fSub_int, fNe_int, toBK_bl]
  by_cases hl : (ws.length : Int) = (k : Int) - 1
  case neg =>
    simp -implicitDefEqProofs only [hl, decide_false, Bool.not_false, if_true, raise_web, bind_exc]
    rw [ew, if_pos hs', if_neg hl]
    rfl
  have hr : (((-1000000 : Int) ≤ 1 ∧ (1 : Int) ≤ 1000000) ∧ -1000000 ≤ (k : Int) ∧ (k : Int) ≤ 1000000) := ⟨⟨by decide, by decide⟩, by omega, by omega⟩
  have hn : ((k : Int) - 1).toNat = k - 1 := by omega
  simp -implicitDefEqProofs only [hl, decide_true, Bool.not_true, Bool.false_eq_true, if_false, sNext_ap, bind_ok, seqK_next, sFor_ap, aRng_ap, aCons_ap, aNil_ap, eV_ap, eK_ap, List.getElem?_cons_succ, List.getElem?_cons_zero, getV_val, rng2_ap, hr, and_self, if_true, ofO_some, hn]
  generalize hb : sIf (tNot' (toB (eCall (noXF d_is_way) _))) _ _ = body
  have key := loop_exc (tg := gN 4) (body := body) (fun l => ∃ x4, l = [.val (.tup [.int (k : Int), .tup (dIs S), .tup (ws.map dWz)]), .val (.int (k : Int)), .val (.tup (dIs S)), .val (.tup (ws.map dWz)), x4, .no]) (fun i => wayP k (i + 1) ((ws[i]?).getD [])) (.web "ways") rw (rangeD 1 (k - 1)) 0
    [.val (.tup [.int (k : Int), .tup (dIs S), .tup (ws.map dWz)]), .val (.int (k : Int)), .val (.tup (dIs S)), .val (.tup (ws.map dWz)), .no, .no] ⟨_, rfl⟩ (by
      rintro i d l hd ⟨x4, rfl⟩
      have hi : i < k - 1 := by have := (List.getElem?_eq_some_iff.mp hd).1; simpa using this
      rw [rangeD_get hi] at hd
      cases hd
      have hi2 : i < ws.length := by omega
      have ei : (1 : Int) + (i : Int) = ((i + 1 : Nat) : Int) := by omega
      have hx : L2.atI (ws.map dWz) (((i + 1 : Nat) : Int) - 1) = some (dWz ws[i]) := by
        rw [show ((i + 1 : Nat) : Int) - 1 = ((i : Nat) : Int) by omega]
        exact atI_nat (by rw [List.getElem?_map, List.getElem?_eq_getElem hi2]; rfl)
      refine ⟨_, rfl, ?_⟩
      rw [Nat.zero_add, List.getElem?_eq_getElem hi2, Option.getD_some, ei]
      have hw := noXF_ok (is_way_eq (m := k) (g := i + 1) (w := ws[i]) (rw := rw) (by omega) (by omega))
      subst hb
      simp -implicitDefEqProofs only [List.set_cons_succ, List.set_cons_zero, sIf_ap, tNot_ap, toB_ap, eCall_ap, aCons_ap, aNil_ap, eV_ap, eBin_ap, eK_ap, List.getElem?_cons_succ, List.getElem?_cons_zero, getV_val, bind_ok, fSub_int, ofO_some, fIx_tup, hx, hw, toBK_bl]
      cases wayP k (i + 1) ws[i] with
      | true => exact .inl ⟨rfl, _, rfl, _, rfl⟩
      | false => exact .inr ⟨rfl, rfl⟩)
  rw [rangeD_len] at key
  rcases key with ⟨ha, l', e, _⟩ | ⟨ha, e⟩
  · rw [e]
    have hb : waysB k ws = true := ha
    rw [ew, if_pos hs', if_pos hl, Int.toNat_natCast, if_pos hb]
    rfl
  · rw [e]
    have hb : waysB k ws = false := ha
    rw [ew, if_pos hs', if_pos hl, Int.toNat_natCast, if_neg (by rw [hb]; exact Bool.false_ne_true)]
    rfl
end K01
end
section
/-! Law 1, plain: good webs; what all that is handed a web lets out. -/
namespace K01
open PySem PySem.Spec L2 HD HC

def ofW (W : Web) : Ow := ⟨(W.many : Int), W.silent.map fun (n : Nat) => (n : Int), W.ways.map fun w => w.map fun o => o.map fun (n : Nat) => (n : Int)⟩
theorem dO_dZ (o : Option Nat) : dO o = dZ (o.map fun (n : Nat) => (n : Int)) := by cases o <;> rfl
theorem dWeb_ofW (W : Web) : dWeb W = dOw (ofW W) := by
  unfold dWeb dOw ofW dNs dIs
  simp only [List.map_map]
  congr 1
  congr 1
  congr 1
  congr 1
  congr 1
  refine List.map_congr_left fun w _ => ?_
  show dWay w = dWz (w.map fun o => o.map fun (n : Nat) => (n : Int))
  unfold dWay dWz
  rw [List.map_map]
  congr 1
  refine List.map_congr_left fun o _ => ?_
  exact dO_dZ o
theorem way_mem {W : Web} (h : WebOk W) {i : Nat} {w : List (Option Nat)} (hw : W.ways[i]? = some w) : WayOk W.many (i + 1) w := by
  have hi := (List.getElem?_eq_some_iff.mp hw).1
  have hl := h.len
  obtain ⟨w', h1, h2⟩ := h.way (i + 1) (by omega) (by omega)
  rw [show i + 1 - 1 = i by omega, hw] at h1
  cases h1
  exact h2
theorem owB_ofW {W : Web} (h : WebOk W) : OwB 6 6 (ofW W) := by
  have h1 := h.lo
  have h2 := h.hi
  have h3 := h.silLen
  have h4 := h.len
  refine ⟨?_, ?_, ?_, fun _ _ => ?_, ?_, fun w hw => ?_⟩
  · show -1 ≤ (W.many : Int); omega
  · show (W.many : Int) ≤ 106; omega
  · show (W.silent.map _).length ≤ 6; rw [List.length_map]; exact h3
  · show (W.silent.map _).length ≤ 6; rw [List.length_map]; exact h3
  · show (W.ways.map _).length ≤ 6; rw [List.length_map]; omega
  · obtain ⟨w0, hm, rfl⟩ := List.mem_map.mp hw
    obtain ⟨i, hi, e⟩ := List.getElem_of_mem hm
    have := way_mem h (i := i) (w := w0) (by rw [List.getElem?_eq_getElem hi, e])
    rw [List.length_map, this.len]
    exact h2
theorem wayP_of {m g : Nat} {w : List (Option Nat)} (h : WayOk m g w) : wayP m g (w.map fun o => o.map fun (n : Nat) => (n : Int)) = true := by
  unfold wayP
  have e1 : (w.map fun o => o.map fun (n : Nat) => (n : Int)).length = m := by rw [List.length_map]; exact h.len
  have e2 : (w.map fun o => o.map fun (n : Nat) => (n : Int))[g]? = some none := by rw [List.getElem?_map, h.at_]; rfl
  rw [decide_eq_true e1, decide_eq_true e2, Bool.true_and, Bool.true_and, List.all_eq_true]
  intro p hp
  rw [List.getElem?_map]
  cases q : w[p]? with
  | none => rfl
  | some o =>
    cases o with
    | none => rfl
    | some v =>
      obtain ⟨a1, a2⟩ := h.go p v q
      show (decide ((0 : Int) ≤ (v : Int)) && decide ((v : Int) < (m : Int)) && !decide ((v : Int) = (p : Int))) = true
      have b1 : (0 : Int) ≤ (v : Int) := by omega
      have b2 : (v : Int) < (m : Int) := by omega
      have b3 : ¬ ((v : Int) = (p : Int)) := by omega
      rw [decide_eq_true b1, decide_eq_true b2, decide_eq_false b3]
      rfl
theorem why_ofW {W : Web} (h : WebOk W) : why (ofW W) = none := by
  have h1 := h.lo
  have h2 := h.hi
  have h4 := h.len
  unfold why
  have hs : silP (ofW W).m (ofW W).S = true := by
    rw [silP_iff, sil_iff]
    refine ⟨(sortU_id h.sort).symm, ?_⟩
    rw [List.filter_eq_nil_iff]
    intro a ha
    obtain ⟨p, hp, rfl⟩ := List.mem_map.mp ha
    obtain ⟨b1, b2⟩ := h.sil p hp
    have c1 : (1 : Int) ≤ (p : Int) := by omega
    have c2 : (p : Int) < (ofW W).m := by show (p : Int) < (W.many : Int); omega
    simp only [c1, c2, decide_true, Bool.and_self, Bool.not_true, Bool.false_eq_true, not_false_eq_true]
  have hl : ((ofW W).ws.length : Int) = (ofW W).m - 1 := by
    show ((W.ways.map _).length : Int) = (W.many : Int) - 1
    rw [List.length_map]; omega
  have hw : waysB (ofW W).m.toNat (ofW W).ws = true := by
    show waysB (W.many : Int).toNat _ = true
    rw [Int.toNat_natCast]
    unfold waysB
    rw [List.all_eq_true]
    intro i hi
    have hi' : i < W.many - 1 := by have := List.mem_range'_1.mp hi; omega
    have hi2 : i < W.ways.length := by omega
    show wayP W.many (i + 1) (((W.ways.map _)[i]?).getD []) = true
    rw [List.getElem?_map, List.getElem?_eq_getElem hi2]
    exact wayP_of (way_mem h (List.getElem?_eq_getElem hi2))
  rw [if_pos (show 2 ≤ (ofW W).m by show (2 : Int) ≤ (W.many : Int); omega), if_pos (show (ofW W).m ≤ 6 by show (W.many : Int) ≤ 6; omega), if_pos hs, if_pos hl, if_pos hw]
theorem OwB.mono {n s n' s' : Nat} {O : Ow} (h : OwB n s O) (hn : n ≤ n') (hs : s ≤ s') : OwB n' s' O :=
  ⟨h.lo, h.hi, Nat.le_trans h.S0 hn, fun a b => Nat.le_trans (h.S1 a b) hs, Nat.le_trans h.W0 hn, fun w hw => Nat.le_trans (h.W1 w hw) hn⟩
theorem why_words {O : Ow} {y : Str} (h : why O = some y) : y = "many" ∨ y = "silent" ∨ y = "ways" := by
  unfold why at h
  split at h
  · split at h
    · split at h
      · split at h
        · split at h
          · cases h
          · cases h; exact .inr (.inr rfl)
        · cases h; exact .inr (.inr rfl)
      · cases h; exact .inr (.inl rfl)
    · cases h; exact .inl rfl
  · cases h; exact .inl rfl
theorem alike_web {y : Str} {rw : Rw} (h : y = "many" ∨ y = "silent" ∨ y = "ways") : d__law_alike [.tup [.str "web", .str y], .tup [.str "web", .str y]] rw = .ok (.bl true, rw) := by
  refine alike_ok ?_ ?_
  · rcases h with rfl | rfl | rfl <;> decide +kernel
  · rcases h with rfl | rfl | rfl <;> rfl
/-- all eleven let out the same -/
theorem works_exc {a b : D} {y : Str} {rw : Rw} (ha : K01.d_need_web [a] rw = .exc (.web y) rw) (hb : K01.d_need_web [b] rw = .ok (.non, rw)) : ∀ g ∈ worksG, g (slotsOf worksN [a, b]) rw = .exc (.web y) rw := by
  have es : slotsOf worksN [a, b] = [.val a, .val b] := rfl
  have h1 : 1 ≤ sizeLine := sl_big (by decide)
  have h0 : 0 ≤ sizeLine := Nat.zero_le _
  have hp1 : K01.d_parting [a, b] rw = .exc (.web y) rw := by
    unfold K01.d_parting K01.b_parting
    rw [dDef2]
    simp -implicitDefEqProofs only [List.replicate, sSeq_ap, sExpr_ap, eCall_ap, aCons_ap, aNil_ap, eV_ap, List.getElem?_cons_succ, List.getElem?_cons_zero, getV_val, bind_ok, ha, bind_exc]
  have hp2 : K01.d_parting [b, a] rw = .exc (.web y) rw := by
    unfold K01.d_parting K01.b_parting
    rw [dDef2]
    simp -implicitDefEqProofs only [List.replicate, sSeq_ap, sExpr_ap, eCall_ap, aCons_ap, aNil_ap, eV_ap, List.getElem?_cons_succ, List.getElem?_cons_zero, getV_val, bind_ok, ha, hb, bind_exc, seqK_next]
  intro g hg
  rw [es]
  simp only [worksG, List.mem_cons, List.not_mem_nil, or_false] at hg
  rcases hg with rfl | rfl | rfl | rfl | rfl | rfl | rfl | rfl | rfl | rfl | rfl
  · simp -implicitDefEqProofs only [eCall_ap, aCons_ap, aNil_ap, eV_ap, List.getElem?_cons_succ, List.getElem?_cons_zero, getV_val, bind_ok, ha]
  · simp -implicitDefEqProofs only [eCall_ap, aCons_ap, aNil_ap, eV_ap, eK_ap, List.getElem?_cons_succ, List.getElem?_cons_zero, getV_val, bind_ok]
    unfold K01.d_asked K01.b_asked
    rw [dDef3]
    simp -implicitDefEqProofs only [List.replicate, sSeq_ap, sExpr_ap, eCall_ap, aCons_ap, aNil_ap, eV_ap, List.getElem?_cons_succ, List.getElem?_cons_zero, getV_val, bind_ok, ha, bind_exc]
  · simp -implicitDefEqProofs only [eCall_ap, aCons_ap, aNil_ap, eV_ap, eK_ap, List.getElem?_cons_succ, List.getElem?_cons_zero, getV_val, bind_ok]
    unfold K01.d_answers K01.b_answers
    rw [dDef2]
    simp -implicitDefEqProofs only [List.replicate, sSeq_ap, sExpr_ap, eCall_ap, aCons_ap, aNil_ap, eV_ap, List.getElem?_cons_succ, List.getElem?_cons_zero, getV_val, bind_ok, ha, bind_exc]
  · simp -implicitDefEqProofs only [eCall_ap, aCons_ap, aNil_ap, eV_ap, eK_ap, List.getElem?_cons_succ, List.getElem?_cons_zero, getV_val, bind_ok]
    unfold K01.d_walk K01.b_walk
    rw [dDef2]
    simp -implicitDefEqProofs only [List.replicate, sSeq_ap, sExpr_ap, eCall_ap, aCons_ap, aNil_ap, eV_ap, List.getElem?_cons_succ, List.getElem?_cons_zero, getV_val, bind_ok, ha, bind_exc]
  · simp -implicitDefEqProofs only [eCall_ap, aCons_ap, aNil_ap, eV_ap, eK_ap, List.getElem?_cons_succ, List.getElem?_cons_zero, getV_val, bind_ok]
    unfold K01.d_alike K01.b_alike
    rw [dDef2]
    simp -implicitDefEqProofs only [List.replicate, sRet_ap, eUn_ap, eCall_ap, aCons_ap, aNil_ap, eV_ap, List.getElem?_cons_succ, List.getElem?_cons_zero, getV_val, bind_ok, hp1, bind_exc]
  · simp -implicitDefEqProofs only [eCall_ap, aCons_ap, aNil_ap, eV_ap, eK_ap, List.getElem?_cons_succ, List.getElem?_cons_zero, getV_val, bind_ok, hp2]
  · simp -implicitDefEqProofs only [eCall_ap, aCons_ap, aNil_ap, eV_ap, eK_ap, List.getElem?_cons_succ, List.getElem?_cons_zero, getV_val, bind_ok]
    unfold K01.d_known K01.b_known
    rw [dDef1]
    simp -implicitDefEqProofs only [List.replicate, sSeq_ap, sExpr_ap, eCall_ap, aCons_ap, aNil_ap, eV_ap, List.getElem?_cons_succ, List.getElem?_cons_zero, getV_val, bind_ok, ha, bind_exc]
  · simp -implicitDefEqProofs only [eCall_ap, aCons_ap, aNil_ap, eV_ap, eK_ap, List.getElem?_cons_succ, List.getElem?_cons_zero, getV_val, bind_ok]
    unfold K01.d_twin K01.b_twin
    rw [dDef3]
    simp -implicitDefEqProofs only [List.replicate, sSeq_ap, sExpr_ap, eCall_ap, aCons_ap, aNil_ap, eV_ap, List.getElem?_cons_succ, List.getElem?_cons_zero, getV_val, bind_ok, ha, bind_exc]
  · simp -implicitDefEqProofs only [eCall_ap, aCons_ap, aNil_ap, eV_ap, eK_ap, List.getElem?_cons_succ, List.getElem?_cons_zero, getV_val, bind_ok]
    unfold K01.d_quiet K01.b_quiet
    rw [dDef1]
    simp -implicitDefEqProofs only [List.replicate, sSeq_ap, sExpr_ap, eCall_ap, aCons_ap, aNil_ap, eV_ap, List.getElem?_cons_succ, List.getElem?_cons_zero, getV_val, bind_ok, ha, bind_exc]
  · simp -implicitDefEqProofs only [eCall_ap, aCons_ap, aNil_ap, eV_ap, eK_ap, eLst_ap, eTup_ap, List.length_nil, List.length_cons, Nat.zero_add, h0, h1, if_true, ofO_some, List.getElem?_cons_succ, List.getElem?_cons_zero, getV_val, bind_ok]
    unfold K01.d_gives_log K01.b_gives_log
    rw [dDef2]
    simp -implicitDefEqProofs only [List.replicate, sSeq_ap, sExpr_ap, eCall_ap, aCons_ap, aNil_ap, eV_ap, List.getElem?_cons_succ, List.getElem?_cons_zero, getV_val, bind_ok, ha, bind_exc]
  · simp -implicitDefEqProofs only [eCall_ap, aCons_ap, aNil_ap, eV_ap, eK_ap, List.getElem?_cons_succ, List.getElem?_cons_zero, getV_val, bind_ok]
    unfold K01.d_written K01.b_written
    rw [dDef1]
    simp -implicitDefEqProofs only [List.replicate, sSeq_ap, sExpr_ap, eCall_ap, aCons_ap, aNil_ap, eV_ap, List.getElem?_cons_succ, List.getElem?_cons_zero, getV_val, bind_ok, ha, bind_exc]
end K01
end
section
/-! Law 1, plain: the law. -/
namespace K01
open PySem PySem.Spec L2 HD HC

noncomputable def lawBody : SM := (sSeq (sSet 3 (eCall d__law_web (aCons (eV 1) (aCons (eK (.int 2)) (aCons (eK (.int 6)) aNil))))) (sSeq (sSet 4 (eCall d__law_spoilt (aCons (eV 1) (aCons (eV 3) aNil)))) (sSeq (sIf (toB (eBin fEq (eCall d__law_taken (aCons (eV 1) (aCons (eK (.int 3)) aNil))) (eK (.int 2)))) (sSet 4 (eCall d__law_spoilt (aCons (eV 1) (aCons (eV 4) aNil)))) sNext) (sSeq (sSet 5 (eCall d__law_why (aCons (eV 4) aNil))) (sSeq (sIf (toB (eUn notNonD (eCall d_need_web (aCons (eV 3) aNil)))) (sRet (eK (.bl false))) sNext) (sIf (toB (eUn isNonD (eV 5))) (sIf (toB (eUn notNonD (eCall d_need_web (aCons (eV 4) aNil)))) (sRet (eK (.bl false))) sNext) (sIf (tAllWeb d__law_alike worksN worksG 4 3 5 6) (sRet (eK (.bl false))) sNext)))))))
theorem b_law_eq : b_law = sSeq (sFor (aRng rng1 (aCons (eK (.int 5)) aNil)) (gN 2) lawBody) (sRet (eK (.bl true))) := rfl
theorem all_web {l : Dl} {rw : Rw} {a b : D} {y : Str} (h4 : l[4]? = some (.val a)) (h3 : l[3]? = some (.val b)) (h5 : l[5]? = some (.val (.str y))) (hl : 6 < l.length)
    (hg : ∀ g ∈ worksG, g (slotsOf worksN [a, b]) rw = .exc (.web y) rw) (hF : d__law_alike [.tup [.str "web", .str y], .tup [.str "web", .str y]] rw = .ok (.bl true, rw)) : tAllWeb d__law_alike worksN worksG 4 3 5 6 l rw = .ok (false, rw) := by
  unfold tAllWeb
  rw [h4, h3, h5]
  exact if_pos ⟨hl, hg, hF⟩
theorem turn {x0 x2 x3 x4 x5 x6 : Sl} {rw : Rw} (hv : RV rw) : ∃ y3 y4 y5 rw', lawBody [x0, .val .row, x2, x3, x4, x5, x6] rw = .ok (.next, [x0, .val .row, x2, y3, y4, y5, x6], rw') ∧ RV rw' := by
  obtain ⟨W, rw1, e1, r1, hW, _, _⟩ := web_ok (a := 2) (b := 6) (by decide) (by decide) (by decide) hv
  have e1' : d__law_web [.row, .int 2, .int 6] rw = .ok (dOw (ofW W), rw1) := by rw [← dWeb_ofW]; exact e1
  have b0 := owB_ofW hW
  obtain ⟨O1, rw2, e2, r2, b1⟩ := spoilt_ok r1 b0 (by decide)
  obtain ⟨t3, rw3, e3, r3, _, _⟩ := taken_ok r2 (n := 3) (by decide)
  -- the second spoiling
  obtain ⟨O, rw4, r4, bO, hO⟩ : ∃ O rw4, RV rw4 ∧ OwB 624 42 O ∧ (∀ z3 z5 : Sl, (if decide (t3 = 2) = true then sSet 4 (eCall d__law_spoilt (aCons (eV 1) (aCons (eV 4) aNil))) [x0, .val .row, x2, z3, .val (dOw O1), z5, x6] rw3 else .ok (.next, [x0, .val .row, x2, z3, .val (dOw O1), z5, x6], rw3)) = .ok (.next, [x0, .val .row, x2, z3, .val (dOw O), z5, x6], rw4)) := by
    by_cases ht : t3 = 2
    · obtain ⟨O2, rw4, e4, r4, b2⟩ := spoilt_ok r3 b1 (by decide)
      refine ⟨O2, rw4, r4, b2.mono (by decide) (by decide), fun z3 z5 => ?_⟩
      rw [if_pos (decide_eq_true ht)]
      simp -implicitDefEqProofs only [sSet_ap, eCall_ap, aCons_ap, aNil_ap, eV_ap, List.getElem?_cons_succ, List.getElem?_cons_zero, getV_val, bind_ok, e4, List.set_cons_succ, List.set_cons_zero]
    · refine ⟨O1, rw3, r3, b1.mono (by decide) (by decide), fun z3 z5 => ?_⟩
      rw [if_neg (by rw [decide_eq_false ht]; exact Bool.false_ne_true)]
  have eW := law_why_ok (rw := rw4) bO (by decide)
  have eG : K01.d_need_web [dOw (ofW W)] rw4 = .ok (.non, rw4) := by rw [need_web_eq b0 (by decide) (by decide), why_ofW hW]; rfl
  have eN := need_web_eq (rw := rw4) bO (by decide) (by decide)
  refine ⟨.val (dOw (ofW W)), .val (dOw O), .val (whyD O), rw4, ?_, r4⟩
  unfold lawBody
  generalize dOw (ofW W) = DG at *
  generalize dOw O1 = D1 at *
  generalize hDO : dOw O = DO at *
  simp -implicitDefEqProofs only [sSeq_ap, sSet_ap, sIf_ap, toB_ap, eBin_ap, eUn_ap, eCall_ap, aCons_ap, aNil_ap, eV_ap, eK_ap, List.getElem?_cons_succ, List.getElem?_cons_zero, getV_val, bind_ok, e1', List.set_cons_succ, List.set_cons_zero, seqK_next, e2, e3, fEq_int, ofO_some, toBK_bl, sNext_ap]
  have hO' := hO (.val DG) x5
  simp -implicitDefEqProofs only [sSet_ap, eCall_ap, aCons_ap, aNil_ap, eV_ap, List.getElem?_cons_succ, List.getElem?_cons_zero, getV_val, bind_ok, List.set_cons_succ, List.set_cons_zero] at hO'
  rw [hO']
  simp -implicitDefEqProofs only [sSeq_ap, sSet_ap, sIf_ap, toB_ap, eUn_ap, eCall_ap, aCons_ap, aNil_ap, eV_ap, List.getElem?_cons_succ, List.getElem?_cons_zero, getV_val, bind_ok, List.set_cons_succ, List.set_cons_zero, seqK_next, eW, eG, notNon_non, ofO_some, toBK_bl, Bool.false_eq_true, if_false, sNext_ap]
  cases hy : why O with
  | none =>
    have ed : whyD O = .non := by unfold whyD; rw [hy]
    rw [hy] at eN
    have eN' : K01.d_need_web [DO] rw4 = .ok (.non, rw4) := eN
    simp -implicitDefEqProofs only [ed, isNon_non, ofO_some, toBK_bl, bind_ok, if_true, eN', notNon_non, Bool.false_eq_true, if_false]
  | some y =>
    have ed : whyD O = .str y := by unfold whyD; rw [hy]
    rw [hy] at eN
    have eN' : K01.d_need_web [DO] rw4 = .exc (.web y) rw4 := eN
    have hw := why_words hy
    have eA := all_web (l := [x0, .val .row, x2, .val DG, .val DO, .val (.str y), x6]) (rw := rw4) rfl rfl rfl (by show 6 < 7; decide) (works_exc eN' eG) (alike_web hw)
    simp -implicitDefEqProofs only [ed, isNon_str, ofO_some, toBK_bl, bind_ok, Bool.false_eq_true, if_false, eA]
theorem pure_law : K01.pureLaw := by
  intro ns hn
  have hv : RV (some ⟨ns, 0, 0⟩) := ⟨_, rfl, Int.le_refl 0, hn⟩
  have hr : rng1 [.int 5] = some (rangeD 0 5) := rng1_of' (n := 5) rfl (by decide)
  obtain ⟨l', rw', e, r, z2, z3, z4, z5, e2⟩ := loop_all (tg := gN 2) (body := lawBody) (fun _ l rw => RV rw ∧ ∃ x2 x3 x4 x5, l = [.val (.scr ns), .val .row, x2, x3, x4, x5, .no]) (rangeD 0 5) 0
    [.val (.scr ns), .val .row, .no, .no, .no, .no, .no] (some ⟨ns, 0, 0⟩) ⟨hv, _, _, _, _, rfl⟩ (by
      rintro i d l rw _ ⟨hv, x2, x3, x4, x5, rfl⟩
      obtain ⟨y3, y4, y5, rw', e, r⟩ := turn (x0 := .val (.scr ns)) (x2 := .val d) (x3 := x3) (x4 := x4) (x5 := x5) (x6 := .no) hv
      exact ⟨_, rfl, _, rw', .inl e, r, _, _, _, _, rfl⟩)
  refine ⟨l', rw', ?_⟩
  rw [b_law_eq]
  simp -implicitDefEqProofs only [List.replicate, sSeq_ap, sFor_ap, aRng_ap, aCons_ap, aNil_ap, eK_ap, bind_ok, hr, ofO_some, e, seqK_next, sRet_ap]
end K01
end
open PySem PySem.W PySem.Calls PyProof.Rows
theorem PySem.Challenge.cw_hopmark_k01_webs_that_are_none_holds : PySem.Challenge.rw_hopmark_k01_webs_that_are_none.Holds :=
by
  w_on; o_law
  refine HandSHeadRun.head_any (r := OpenLaw.row PySem.Challenge.rw_hopmark_k01_webs_that_are_none) (q := view (OpenLaw.row PySem.Challenge.rw_hopmark_k01_webs_that_are_none).prog [62]) (H := K01.hk) (ob := K01.ob) (M := 4000) (loose := ((["HopError", "BadWeb", "BadAsk", "BadLog", "BadText", "LEAST_MANY", "MOST_MANY", "MOST_HOPS", "is_many", "is_way", "need_web", "need_ask", "need_post", "NOTHING", "steps_to", "posts_on", "answer_of", "answers_of", "asked", "answers", "walk", "all_ways", "with_end", "all_silent", "seen_in", "gives", "giving", "MOST_LOG", "is_answer", "need_log"] : List Str) ++ (["gives_log", "dues_of", "all_worlds", "with_way", "other_next", "twin_in", "twin_of", "twin", "known", "quiet", "parting_of", "parting", "alike", "sign_of", "written", "_law_taken", "_law_alike", "_law_way", "_law_web", "_law_word", "_law_why", "_law_spoilt", "_law_works"] : List Str))) (d := HandSHeadRun.topDef (OpenLaw.row PySem.Challenge.rw_hopmark_k01_webs_that_are_none).prog 62) (kwd := []) K01.ob_eq
    (by kernel_rfl) (fun s => by kernel_rfl) K01.run (by kernel_rfl) (by kernel_rfl) (by kernel_rfl) (by rfl) (by first | assumption | decide +kernel) (by decide +kernel) ⟨rfl, rfl, rfl, rfl, rfl, by decide +kernel⟩ ?hw ?hc
  case hw => w_witness2
  case hc =>
    refine LamX.walk_ofTsE (l := PySem.Challenge.rw_hopmark_k01_webs_that_are_none) (n := 63) (k := 8) (x := "_law_script") (CX := fun _ => HD.CXF) rfl (by decide) (by kernel_rfl) ⟨rfl, by decide, by decide⟩ ?F (fun _ _ _ _ _ z => z)
    intro w mg fa h Y G hmg0
    obtain ⟨K, KX, c⟩ := Y
    have hmg : mg ("law" : PySem.Str) = some (.ref fa) := by
      have e : (HandSHeadRun.topDef (OpenLaw.row PySem.Challenge.rw_hopmark_k01_webs_that_are_none).prog 62).name = ("law" : PySem.Str) := by kernel_rfl
      rw [← e]
      exact hmg0
    obtain ⟨fd, hb, hF⟩ := K01.facts K01.pure_law (P := (PySem.Challenge.rw_hopmark_k01_webs_that_are_none).prog) (w := w) KX G hmg c
    exact ⟨K, KX, fd, K01.tf.map (He.cT K), HD.spL K, fun p hp => by obtain ⟨q, hq, rfl⟩ := List.mem_map.mp hp; exact c.empty q hq, fun p hp => by obtain ⟨q, hq, rfl⟩ := List.mem_map.mp hp; exact c.out q hq, fun p hp => by obtain ⟨q, hq, rfl⟩ := List.mem_map.mp hp; exact PySem.W.codeHd_of_K KX (c.hd q hq), hb, fun H a ns hl hbt hH hS => ⟨a, ns, rfl, hS, HD.tabs_of (K01.ex_of c.more).1 hH, hl, fun _ => rfl⟩, hF⟩
